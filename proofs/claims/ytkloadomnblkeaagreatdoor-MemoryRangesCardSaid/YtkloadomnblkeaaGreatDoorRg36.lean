/- Part 36 of the library that the proof of the statement uses: an abstract run of the program, proved right, and what its functions give. -/
import Derived.Test.YtkloadomnblkeaaGreatDoorRg34
import Derived.Test.YtkloadomnblkeaaGreatDoorRg35
set_option linter.unusedVariables false
set_option linter.unusedSimpArgs false

set_option maxRecDepth 100000
noncomputable section
namespace Go.Abs
open Go.Proofs Classical Go.Abs.Fin
def geB (o x:Option Nat):Bool:=ordO .f32 x o==some .gt||ordO .f32 x o==some .eq
theorem bge {a b:Option Nat} (ha:finB a=true) (hb:finB b=true):(ordO .f32 a b==some .gt||ordO .f32 a b==some .eq)=decide (fkey b<=fkey a):=by
 rw [bgt ha hb,beqk ha hb,←Bool.decide_or]
 exact decide_eq_decide.2 (by omega)
def cntL (o:Option Nat) (l:List (Option Nat)):Nat:=l.countP (geB o)
def cntF (xs:List (Option Nat)) (o:Option Nat) (lo hi:Nat):Nat:=cntL o ((xs.drop lo).take (hi-lo))
theorem cntF_add {xs:List (Option Nat)} {o:Option Nat} {lo mid hi:Nat} (h1:lo<=mid) (h2:mid<=hi):cntF xs o lo hi=cntF xs o lo mid+cntF xs o mid hi:=by
 unfold cntF cntL
 rw [←List.countP_append]
 congr 1
 have e:(xs.drop mid).take (hi-mid)=((xs.drop lo).drop (mid-lo)).take (hi-mid):=by rw [List.drop_drop,show lo+(mid-lo)=mid by omega]
 rw [e,←List.take_add,show mid-lo+(hi-mid)=hi-lo by omega]
theorem cntF_nil {xs:List (Option Nat)} {o:Option Nat} {lo:Nat}:cntF xs o lo lo=0:=by
 unfold cntF cntL;simp
theorem cntL_all {o:Option Nat}:∀ (l:List (Option Nat)),(∀ x∈l,geB o x=true)->cntL o l=l.length
 | [],_=>rfl
 | x::l,h=>by
  have:=cntL_all l fun y hy=>h y (List.mem_cons_of_mem _ hy)
  unfold cntL at this ⊢
  rw [List.countP_cons_of_pos (h x List.mem_cons_self),this];rfl
theorem cntL_none {o:Option Nat}:∀ (l:List (Option Nat)),(∀ x∈l,geB o x=false)->cntL o l=0
 | [],_=>rfl
 | x::l,h=>by
  have:=cntL_none l fun y hy=>h y (List.mem_cons_of_mem _ hy)
  unfold cntL at this ⊢
  rw [List.countP_cons_of_neg (by rw [h x List.mem_cons_self];simp),this]
theorem cut_mem {xs:List (Option Nat)} {lo hi:Nat} {x:Option Nat} (hh:hi<=xs.length) (h:x∈(xs.drop lo).take (hi-lo)):∃ k,lo<=k/\k<hi/\xs.getD k none=x:=by
 obtain ⟨k,hk,rfl⟩:=mem_getD h
 rw [List.length_take,List.length_drop] at hk
 refine ⟨lo+k,by omega,by omega,?_⟩
 rw [List.getD_eq_getElem?_getD,List.getD_eq_getElem?_getD,List.getElem?_take,if_pos (by omega),List.getElem?_drop]
theorem cntF_all {xs:List (Option Nat)} {o:Option Nat} {lo hi:Nat} (hf:FinL xs) (ho:finB o=true) (hh:hi<=xs.length) (hl:lo<=hi) (h:∀ k,lo<=k->k<hi->fkey o<=keyAt xs k):cntF xs o lo hi=hi-lo:=by
 unfold cntF
 rw [cntL_all,List.length_take,List.length_drop]
 ·omega
 ·intro x hx
  obtain ⟨k,h1,h2,rfl⟩:=cut_mem hh hx
  unfold geB
  rw [bge (hf.get (by omega)) ho]
  exact decide_eq_true (h k h1 h2)
theorem cntF_none {xs:List (Option Nat)} {o:Option Nat} {lo hi:Nat} (hf:FinL xs) (ho:finB o=true) (hh:hi<=xs.length) (h:∀ k,lo<=k->k<hi->keyAt xs k<fkey o):cntF xs o lo hi=0:=by
 unfold cntF
 refine cntL_none _ fun x hx=>?_
 obtain ⟨k,h1,h2,rfl⟩:=cut_mem hh hx
 unfold geB
 rw [bge (hf.get (by omega)) ho]
 have:=h k h1 h2
 exact decide_eq_false (by unfold keyAt at this;omega)
def cntE (n:Nat) (xs:List (Option Nat)) (b:Int) (m:Nat) (ls:List AV) (f t:Int) (o:Option Nat):Int:=
 if rngE n xs b m ls f t=0 then (if finB o=true then 0 else 1) else rngE n xs b m ls f t
def cntV (n:Nat) (xs:List (Option Nat)) (b:Int) (m:Nat) (ls:List AV) (f t:Int) (o:Option Nat):Nat:=
 if cntE n xs b m ls f t o=0 then cntF xs o f.toNat t.toNat else 0
theorem condO_ge {R:Type} {o x:Option Nat} {a b:Option R}:cO (ordO .f32 x o==some .gt||ordO .f32 x o==some .eq) a b=cO (geB o x) a b:=rfl
theorem run_37' {n m N:Nat} {cs ls:List AV} {b f t:Int} {o:Option Nat} (h:Flos n cs) (h':Lvs m ls) (hN:n+m+5020<N):
  (fsM mzO waysQ N 12).call (List RLeaf) 37 [.ofB (.list n cs),.s (.agg [.b (.int .i64 b),.b (.list m ls)]),.ofB (.int .i64 f),.ofB (.int .i64 t),.ofB (.flo .f32 o)] [] (resK [false,false])=
  some [.v (.int .i64 (cntV n (fO cs) b m ls f t o)),.v (.int .i64 (cntE n (fO cs) b m ls f t o))]:=by
 rw [run_37]
 have hl:=h'.2.1
 have hm:=h'.1
 have hxl:=h.len
 have hcl:=h.2.2
 simp only [shut_eq,guardO_dec,h,h',put3n,ints3n,firstNZ_3,and_self,if_true,condO_bne]
 by_cases hr0:rngE n (fO cs) b m ls f t=0
 case neg=>
  have e1:cntE n (fO cs) b m ls f t o=rngE n (fO cs) b m ls f t:=by unfold cntE;rw [if_neg hr0]
  have e2:cntV n (fO cs) b m ls f t o=0:=by unfold cntV;rw [e1,if_neg hr0]
  rw [e1,e2]
  unfold rngE at hr0 ⊢
  by_cases h1:chkT n (fO cs) b m ls=0
  ·simp only [h1,if_true] at hr0 ⊢
   simp only [hr0,if_false]
   rfl
  ·simp only [h1,if_false]
   rfl
 have hc0:chkT n (fO cs) b m ls=0:=by
  unfold rngE at hr0
  split at hr0
  ·assumption
  ·exact hr0
 obtain ⟨A,F,T,rfl,rfl,rfl,hFT,hTn,hT⟩:=rng_zero hxl hr0
 have hA1:=hT.one
 have hA2:=hT.most
 have hfew:=hT.few
 have hrg:(if (F:Int)<0\/(F:Int)>(n:Int) then (3:Int) else if (T:Int)<0\/(T:Int)>(n:Int) then 3 else if (T:Int)<(F:Int) then 11 else 0)=0:=by
  rw [if_neg (by omega),if_neg (by omega),if_neg (by omega)]
 simp only [hc0,hrg,if_true]
 have hzE:cntE n (fO cs) (A:Int) m ls (F:Int) (T:Int) o=if finB o=true then 0 else 1:=by unfold cntE;rw [if_pos hr0]
 cases ho:finB o with
 | false=>
  have e1:cntE n (fO cs) (A:Int) m ls (F:Int) (T:Int) o=1:=by rw [hzE,ho];rfl
  have e2:cntV n (fO cs) (A:Int) m ls (F:Int) (T:Int) o=0:=by unfold cntV;rw [e1];rfl
  rw [e1,e2]
  rfl
 | true=>
 have e1:cntE n (fO cs) (A:Int) m ls (F:Int) (T:Int) o=0:=by rw [hzE,ho];rfl
 have e2:cntV n (fO cs) (A:Int) m ls (F:Int) (T:Int) o=cntF (fO cs) o F T:=by unfold cntV;rw [if_pos e1,Int.toNat_natCast,Int.toNat_natCast]
 rw [e1,e2]
 clear hzE hrg hc0 hr0 e1 e2
 simp only [Bool.not_true,Bool.false_eq_true,if_false,if_true]
 refine loopC_rule (fun k (r:Nat->List AV->Int->Int->Nat->List AV->Int->Nat->List AV->Option Nat->Nat->List AV->Int->Nat->List AV->Nat->List AV->Int->List (AV × AV × Nat)->Nat->Nat->List AV->Nat->List AV->Int->Option (List RLeaf))=>∀ (i:Nat) (E:List PE) (pc:List AV),i+k=m->InvE (lenL ls) (pvL ls) E i 0->
  r m ls (m:Int) (i:Int) (n) (cs) (A:Int) (m) (ls) (o) (3) pc (A:Int) (m) (ls) (0) ([]) ((0:Int)) (encE 0 E) E.length (0) ([]) (n) (cs) (A:Int)=some [.v (.int .i64 (cntF (fO cs) o F T:Int)),.v (.int .i64 0)]) ?_ N m (by omega) 0 [] _ (by omega) InvE.nil
 intro k r ih i E pc hi hE
 by_cases hk:i<m
 ·obtain ⟨q,ds,e1,e2,e3⟩:=h'.get hk
  have eL:=lvAt_of e1
  have p0:0<ls.length:=by omega
  have wi:IntKind.i64.wrap ((i:Int)+1)=((i+1:Nat):Int):=by rw [wrap64]<;>omega
  have hle:=e2.len
  have hdl:=e2.2.2
  have hq:lenL ls i=q:=by unfold lenL;rw [eL];omega
  have hfl:=(hT.lev i hk).finM
  rw [eL] at hfl
  simp only [condO_dec,guardO_dec,Int.ofNat_lt,hk,p0,if_true,Int.natCast_nonneg,true_and,and_true,Int.toNat_natCast,Nat.mul_one,e1,asList_list,bindO_ok]
  refine loopC_rule (fun k2 (r2:Int->Nat->List AV->Int->Int->Nat->List AV->Int->Int->Nat->List AV->Int->Nat->List AV->Option Nat->Nat->List AV->Int->Nat->List AV->Nat->List AV->Int->List (AV × AV × Nat)->Nat->Nat->List AV->Nat->List AV->Int->Option (List RLeaf))=>∀ (j:Nat) (E:List PE),j+k2=q->InvE (lenL ls) (pvL ls) E i j->
   r2 (i:Int) m ls (m:Int) (i:Int) q ds (q:Int) (j:Int) (n) (cs) (A:Int) (m) (ls) (o) (3) pc (A:Int) (m) (ls) (0) ([]) ((0:Int)) (encE 0 E) E.length (0) ([]) (n) (cs) (A:Int)=some [.v (.int .i64 (cntF (fO cs) o F T:Int)),.v (.int .i64 0)]) ?_ N q (by omega) 0 E (by omega) hE
  intro k2 r2 ih2 j E hj hE
  by_cases hk2:j<q
  ·have ge1:=e2.get (i:=2*j) (by omega)
   have ge2:=e2.get (i:=2*j+1) (by omega)
   have wj:IntKind.i64.wrap ((j:Int)+1)=((j+1:Nat):Int):=by rw [wrap64]<;>omega
   have q0:0<ds.length:=by omega
   have q1:(2*j+2<=ds.length)=True:=eq_true (by omega)
   have hcm:j*2=2*j:=by omega
   have f1:=finB_clean (hfl.get (i:=2*j) (by omega))
   have f2:=finB_clean (hfl.get (i:=2*j+1) (by omega))
   have hput:=put_node hE eL
   simp only [condO_dec,guardO_dec,Int.ofNat_lt,hk2,q0,q1,if_true,Int.natCast_nonneg,true_and,and_true,Int.toNat_natCast,hcm,ge1,ge2,bindO_ok,f1,f2,and_self,hput,wj]
   exact ih2 (k2-1) (by omega) (j+1) _ (by omega) hE.step
  ·have:j=lenL ls i:=by omega
   subst this
   simp only [condO_dec,Int.ofNat_lt,hk2,if_false,wi]
   exact ih (k-1) (by omega) (i+1) E _ (by omega) hE.next
 have hik:i=m:=by omega
 simp only [condO_dec,Int.ofNat_lt,hk,if_false]
 rw [hik] at hE
 clear ih hi hk hik
 refine (loopC_rule (fun k (r:Int->Nat->List AV->Int->Nat->List AV->Option Nat->Nat->List AV->Int->Nat->List AV->Nat->List AV->Nat->List AV->Int->List (AV × AV × Nat)->Nat->Nat->List AV->Nat->List AV->Int->Nat->List AV->Nat->List AV->Int->Int->Int->Int->Int->Int->Int->Option (List RLeaf))=>∀ (at_ c:Nat),F<=at_->at_<=T->T<at_+k->c<=at_->
  r (at_:Int) ((n)) ((cs)) ((A:Int)) ((m)) ((ls)) ((o)) ((3)) (pc) ((A:Int)) ((m)) ((ls)) ((0)) (([])) ((n)) ((cs)) ((A:Int)) ((encE 0 E)) (E.length) ((0)) (([])) ((n)) ((cs)) ((A:Int)) (0) ([]) ((n)) ((cs)) ((A:Int)) (c:Int) (at_:Int) ((A:Int)) ((↑(n):Int)) (F:Int) (T:Int)=some [.v (.int .i64 ((c+cntF (fO cs) o at_ T:Nat):Int)),.v (.int .i64 0)]) ?_ N 4097 (by omega) F 0 (by omega) (by omega) (by omega) (by omega)).trans (by simp)
 intro k r ih at_ c ha1 ha2 hk hca
 obtain ⟨k,rfl⟩:∃ k',k=k' + 1:=⟨k-1,by omega⟩
 by_cases hlt:at_<T
 case neg=>
  have hnl:¬ ((at_:Int)<(T:Int)):=by omega
  have:at_=T:=by omega
  subst this
  simp only [condO_dec,if_neg hnl,cntF_nil,Nat.add_zero]
 have hyl:(at_:Int)<(T:Int):=by omega
 simp only [condO_dec,if_pos hyl]
 have hb:=best_start (a:=(A:Int)) (n:=(n:Int)) (to:=(T:Int)) (at_:=(at_:Int)) (by omega) (by omega) (by omega) (by omega) _ rfl
 have hnode:=start_node (A:=A) (n:=n) (at_:=at_) (to:=(T:Int))
 generalize hr:bestC (n:Int) (T:Int) (at_:Int) 14 0 (A:Int) (-1,(at_:Int),(at_:Int)+1)=res at hb hnode
 obtain ⟨_,hb1,hb2,_⟩:=hb
 have han:at_<n:=by omega
 rw [←hxl] at hnode
 have fin:∀ (L I E':Int),(L,I,E')=res->∃ En:Nat,E'=(En:Int)/\at_<En/\En<=T/\Std (keyAt (fO cs)) (valN (fO cs) ls L I).1 (valN (fO cs) ls L I).2 at_ En:=by
  intro L I E' e
  subst e
  obtain ⟨v1,v2,v3⟩:=val_std hT (by omega) hnode
  dsimp only at v1 v2 v3 hb2
  obtain ⟨En,rfl⟩:=Int.eq_ofNat_of_zero_le (show 0<=E' by omega)
  rw [Int.toNat_natCast] at v1
  exact ⟨En,rfl,by omega,by omega,v1⟩
 have look:∀ (L I X:Int),(L,I,X)=res->finB (valN (fO cs) ls L I).1=true/\finB (valN (fO cs) ls L I).2=true/\((L<0/\I=(at_:Int)/\X=((at_+1:Nat):Int)/\valN (fO cs) ls L I=(clean1 ((fO cs).getD at_ none),clean1 ((fO cs).getD at_ none)))\/
   (¬ L<0/\mlook Tryz.prog 130 62 (.agg [.int .i64 L,.int .i64 I]) (encE 0 E)=some (true,.agg [.flo .f32 (valN (fO cs) ls L I).1,.flo .f32 (valN (fO cs) ls L I).2]))):=by
  intro L I X e
  subst e
  exact node_look hT hE hnode (by omega)
 have wat:IntKind.i64.wrap ((at_:Int)+1)=(at_:Int)+1:=wrap64 (by omega) (by omega)
 rw [wat]
 refine loopC_rule (fun mm (r2:Int->Int->Int->Int->Nat->List AV->Int->Nat->List AV->Option Nat->Nat->List AV->Int->Nat->List AV->Nat->List AV->Nat->List AV->Int->List (AV × AV × Nat)->Nat->Nat->List AV->Nat->List AV->Int->Nat->List AV->Nat->List AV->Int->Int->Int->Int->Int->Int->Int->Int->Int->Option (List RLeaf))=>∀ (l s c1 c2 c3:Int),0<=l->l+mm<=13->1<=s->s<=8192->(n:Int)<s*2 ^ mm->bestC (n:Int) (T:Int) (at_:Int) (mm+1) l s (c1,c2,c3)=res->
  r2 (at_:Int) c3 l s (((n))) (((cs))) (((A:Int))) (((m))) (((ls))) (((o))) (((3))) ((pc)) (((A:Int))) (((m))) (((ls))) (((0))) ((([]))) (((n))) (((cs))) (((A:Int))) (((encE 0 E))) ((E.length)) (((0))) ((([]))) (((n))) (((cs))) (((A:Int))) ((0)) (([])) (((n))) (((cs))) (((A:Int))) ((c:Int)) ((at_:Int)) (((A:Int))) (((↑(n):Int))) ((F:Int)) ((T:Int)) c1 c2=some [.v (.int .i64 ((c+cntF (fO cs) o at_ T:Nat):Int)),.v (.int .i64 0)]) ?_ N 13 (by omega) 0 (A:Int) (-1) (at_:Int) ((at_:Int)+1) (by omega) (by omega) (by omega) (by omega) (by omega) hr
 intro mm r2 ih2 l s c1 c2 c3 hl0 hlm hs1 hs2 hsn hbe
 have w1:IntKind.i64.wrap ((at_:Int)+s)=(at_:Int)+s:=wrap64 (by omega) (by omega)
 have w2:IntKind.i64.wrap (l+1)=l+1:=wrap64 (by omega) (by omega)
 have w3:IntKind.i64.wrap (2*s)=2*s:=wrap64 (by omega) (by omega)
 have w4:(at_:Int).tmod s=(at_:Int)%s:=Int.tmod_eq_emod_of_nonneg (by omega)
 have w5:(at_:Int).tdiv s=(at_:Int) / s:=Int.tdiv_eq_ediv_of_nonneg (by omega)
 have w6:IntKind.i64.wrap ((at_:Int) / s)=(at_:Int) / s:=by
  have:=Int.ediv_le_self s (show (0:Int)<=(at_:Int) by omega)
  have:=Int.ediv_nonneg (show (0:Int)<=(at_:Int) by omega) (show 0<=s by omega)
  rw [wrap64 (by omega) (by omega)]
 have nz:(s≠0)=True:=eq_true (by omega)
 simp only [condO_dec,guardO_dec,nz,if_true,w1,w2,w3,w4,w5,w6,ite_min,condO_sf,bindO_ok]
 rw [bestC] at hbe
 by_cases hok:(at_:Int)%s=0/\min (n:Int) ((at_:Int)+s)<=(T:Int)
 ·have e1:(((at_:Int)%s==0)&&decide (min (n:Int) ((at_:Int)+s)<=(T:Int)))=true:=by rw [hok.1,decide_eq_true hok.2];rfl
  rw [e1,condO_tx]
  rw [if_pos hok] at hbe
  by_cases hn:(n:Int)<=s
  ·rw [if_pos hn] at hbe
   rw [if_pos (show s>=(n:Int) from hn)]
   obtain ⟨En,hEn,s1,s2,v1⟩:=fin _ _ _ hbe
   rw [hEn]
   have we:IntKind.i64.wrap ((c:Int)+IntKind.i64.wrap ((En:Int)-(at_:Int)))=((c+(En-at_):Nat):Int):=by rw [wrap64 (z:=(En:Int)-(at_:Int)) (by omega) (by omega),wrap64 (by omega) (by omega)];omega
   have all:fkey o<=fkey (valN (fO cs) ls l ((at_:Int) / s)).1->c+(En-at_)+cntF (fO cs) o En T=c+cntF (fO cs) o at_ T:=by
    intro hk
    have u1:=cntF_add (xs:=fO cs) (o:=o) (show at_<=En by omega) s2
    have u2:=cntF_all (lo:=at_) (hi:=En) hT.fin ho (by omega) (by omega) (fun q q1 q2=>by have:=v1.2.2.2.2 q q1 q2;omega)
    omega
   have non:fkey (valN (fO cs) ls l ((at_:Int) / s)).2<fkey o->cntF (fO cs) o En T=cntF (fO cs) o at_ T:=by
    intro hk
    have u1:=cntF_add (xs:=fO cs) (o:=o) (show at_<=En by omega) s2
    have u2:=cntF_none (lo:=at_) (hi:=En) hT.fin ho (by omega) (fun q q1 q2=>by have:=v1.2.2.2.2 q q1 q2;omega)
    omega
   have hsz:((0:Int)<=(at_:Int)/\(at_:Int)<=(En:Int)/\(En:Int)<=(n:Int))=True:=eq_true (by omega)
   have hcn:(n=cs.length)=True:=eq_true hcl.symm
   obtain ⟨g1,g2,⟨g3,g4,g6,g5⟩ | ⟨g3,g5⟩⟩:=look _ _ _ hbe
   ·have hgF:=h.get (i:=at_) (by omega)
    have hc0:0<cs.length:=by omega
    have fz:=finB_clean (hT.fin.get (i:=at_) (by omega))
    rw [g5] at all non
    simp only [condO_dec,g3,g4,if_true,guardO_dec,Int.natCast_nonneg,Int.ofNat_lt,han,hc0,and_self,Int.toNat_natCast,Nat.mul_one,hgF,bindO_ok,bge fz ho,we]
    by_cases hk:fkey o<=fkey (clean1 ((fO cs).getD at_ none))
    ·rw [if_pos hk,←all hk]
     exact ih k (by omega) En (c+(En-at_)) (by omega) (by omega) (by omega) (by omega)
    ·rw [if_neg hk,if_neg hk,←non (by show fkey (clean1 _)<_;omega)]
     exact ih k (by omega) En c (by omega) (by omega) (by omega) (by omega)
   ·simp only [condO_dec,g3,if_false,g5,bindO_ok,asAgg_agg,List.length_cons,List.length_nil,guardO_dec,if_true,List.getD_cons_zero,List.tail_cons,asF_flo,bge g1 ho,bge g2 ho,we,hsz,hcn,Int.toNat_natCast,Nat.mul_one]
    by_cases hk:fkey o<=fkey (valN (fO cs) ls l ((at_:Int) / s)).1
    ·rw [if_pos hk,←all hk]
     exact ih k (by omega) En (c+(En-at_)) (by omega) (by omega) (by omega) (by omega)
    rw [if_neg hk]
    by_cases hk2:fkey o<=fkey (valN (fO cs) ls l ((at_:Int) / s)).2
    ·rw [if_pos hk2]
     have hcut:=flos_cut h (i:=at_) (m:=En-at_) (by omega)
     have hcl2:=hcut.1.2.2
     have hcx:=hcut.1.len
     refine (loopC_rule (fun k3 (r3:Int->Nat->List AV->Int->Int->Nat->List AV->Int->Nat->List AV->Option Nat->Nat->List AV->Int->Nat->List AV->Nat->List AV->Nat->List AV->Int->List (AV × AV × Nat)->Nat->Nat->List AV->Nat->List AV->Int->Nat->List AV->Nat->List AV->Int->Int->Int->Int->Int->Int->Int->Int->Int->Int->Int->Nat->List AV->Int->Int->Int->Option Nat->Option Nat->Option Nat->Option Nat->Option (List RLeaf))=>∀ (j c2_:Nat),j+k3=En-at_->c2_<=at_+j->
      r3 (En:Int) (En-at_) ((cs.drop at_).take (En-at_)) ((En-at_:Nat):Int) (j:Int) ((((n)))) ((((cs)))) ((((A:Int)))) ((((m)))) ((((ls)))) ((((o)))) ((((3)))) (((pc))) ((((A:Int)))) ((((m)))) ((((ls)))) ((((0)))) (((([])))) ((((n)))) ((((cs)))) ((((A:Int)))) ((((encE 0 E)))) (((E.length))) ((((0)))) (((([])))) ((((n)))) ((((cs)))) ((((A:Int)))) (((0))) ((([]))) ((((n)))) ((((cs)))) ((((A:Int)))) (c2_:Int) (((at_:Int))) ((((A:Int)))) ((((↑(n):Int)))) (((F:Int))) (((T:Int))) (l) ((at_:Int) / s) (l) ((at_:Int) / s) ((((n)))) ((((cs)))) ((((A:Int)))) (l) ((at_:Int) / s) (valN (fO cs) ls l ((at_:Int) / s)).1 (valN (fO cs) ls l ((at_:Int) / s)).2 (valN (fO cs) ls l ((at_:Int) / s)).1 (valN (fO cs) ls l ((at_:Int) / s)).2=some [.v (.int .i64 ((c2_+cntL o ((((fO cs).drop at_).take (En-at_)).drop j)+cntF (fO cs) o En T:Nat):Int)),.v (.int .i64 0)]) ?_ N (En-at_) (by omega) 0 c (by omega) (by omega)).trans (by
      rw [List.drop_zero,cntF_add (show at_<=En by omega) s2,←Nat.add_assoc];rfl)
     intro k3 r3 ih3 j c2_ hj3 hc3
     rw [hcut.2] at hcx
     by_cases hk3:j<En-at_
     ·have hgj:=hcut.1.get (i:=j) hk3
      rw [hcut.2] at hgj
      have hcj:0<((cs.drop at_).take (En-at_)).length:=by omega
      have wj:IntKind.i64.wrap ((j:Int)+1)=((j+1:Nat):Int):=by rw [wrap64]<;>omega
      have wc2:IntKind.i64.wrap ((c2_:Int)+1)=((c2_+1:Nat):Int):=by rw [wrap64]<;>omega
      rw [drop_cons (d:=none) (show j<(((fO cs).drop at_).take (En-at_)).length by omega)]
      simp only [condO_dec,condO_ge,guardO_dec,Int.ofNat_lt,hk3,hcj,if_true,Int.natCast_nonneg,true_and,and_true,Int.toNat_natCast,Nat.mul_one,hgj,bindO_ok,wj,wc2]
      cases hge:geB o ((((fO cs).drop at_).take (En-at_)).getD j none) with
      | true=>
       have ec:cntL o ((((fO cs).drop at_).take (En-at_)).getD j none::(((fO cs).drop at_).take (En-at_)).drop (j+1))=cntL o ((((fO cs).drop at_).take (En-at_)).drop (j+1))+1:=by
        unfold cntL;rw [List.countP_cons_of_pos hge]
       rw [ec,show c2_+(cntL o ((((fO cs).drop at_).take (En-at_)).drop (j+1))+1)=c2_+1+cntL o ((((fO cs).drop at_).take (En-at_)).drop (j+1)) by omega]
       exact ih3 (k3-1) (by omega) (j+1) (c2_+1) (by omega) (by omega)
      | false=>
       have ec:cntL o ((((fO cs).drop at_).take (En-at_)).getD j none::(((fO cs).drop at_).take (En-at_)).drop (j+1))=cntL o ((((fO cs).drop at_).take (En-at_)).drop (j+1)):=by
        unfold cntL;rw [List.countP_cons_of_neg (by rw [hge];simp)]
       rw [ec]
       exact ih3 (k3-1) (by omega) (j+1) c2_ (by omega) (by omega)
     ·have hz:(((fO cs).drop at_).take (En-at_)).drop j=[]:=by rw [List.drop_eq_nil_iff];omega
      have e0:cntL o []=0:=rfl
      simp only [condO_dec,Int.ofNat_lt,hk3,if_false,hz,e0,Nat.add_zero]
      exact ih k (by omega) En c2_ (by omega) (by omega) (by omega) (by omega)
    ·rw [if_neg hk2,←non (by omega)]
     exact ih k (by omega) En c (by omega) (by omega) (by omega) (by omega)
  ·rw [if_neg hn] at hbe
   rw [if_neg (show ¬ s>=(n:Int) from hn)]
   obtain ⟨mm,rfl⟩:∃ m',mm=m' + 1:=by
    cases mm with
    | zero=>omega
    | succ mm=>exact ⟨mm,rfl⟩
   refine ih2 mm (by omega) (l+1) (2*s) l ((at_:Int) / s) (min (n:Int) ((at_:Int)+s)) (by omega) (by omega) (by omega) (by omega) ?_ hbe
   rw [Int.pow_succ] at hsn;rw [Int.mul_comm 2 s,Int.mul_assoc,Int.mul_comm 2];exact hsn
 ·have e1:(((at_:Int)%s==0)&&decide (min (n:Int) ((at_:Int)+s)<=(T:Int)))=false:=by
   rw [Bool.and_eq_false_iff]
   by_cases hz:(at_:Int)%s=0
   ·exact .inr (decide_eq_false fun h=>hok ⟨hz,h⟩)
   ·exact .inl (beq_eq_false_iff_ne.2 hz)
  rw [e1,condO_fx]
  rw [if_neg hok] at hbe
  obtain ⟨En,hEn,s1,s2,v1⟩:=fin _ _ _ hbe
  rw [hEn]
  have we:IntKind.i64.wrap ((c:Int)+IntKind.i64.wrap ((En:Int)-(at_:Int)))=((c+(En-at_):Nat):Int):=by rw [wrap64 (z:=(En:Int)-(at_:Int)) (by omega) (by omega),wrap64 (by omega) (by omega)];omega
  have all:fkey o<=fkey (valN (fO cs) ls c1 c2).1->c+(En-at_)+cntF (fO cs) o En T=c+cntF (fO cs) o at_ T:=by
   intro hk
   have u1:=cntF_add (xs:=fO cs) (o:=o) (show at_<=En by omega) s2
   have u2:=cntF_all (lo:=at_) (hi:=En) hT.fin ho (by omega) (by omega) (fun q q1 q2=>by have:=v1.2.2.2.2 q q1 q2;omega)
   omega
  have non:fkey (valN (fO cs) ls c1 c2).2<fkey o->cntF (fO cs) o En T=cntF (fO cs) o at_ T:=by
   intro hk
   have u1:=cntF_add (xs:=fO cs) (o:=o) (show at_<=En by omega) s2
   have u2:=cntF_none (lo:=at_) (hi:=En) hT.fin ho (by omega) (fun q q1 q2=>by have:=v1.2.2.2.2 q q1 q2;omega)
   omega
  have hsz:((0:Int)<=(at_:Int)/\(at_:Int)<=(En:Int)/\(En:Int)<=(n:Int))=True:=eq_true (by omega)
  have hcn:(n=cs.length)=True:=eq_true hcl.symm
  obtain ⟨g1,g2,⟨g3,g4,g6,g5⟩ | ⟨g3,g5⟩⟩:=look _ _ _ hbe
  ·have hgF:=h.get (i:=at_) (by omega)
   have hc0:0<cs.length:=by omega
   have fz:=finB_clean (hT.fin.get (i:=at_) (by omega))
   rw [g5] at all non
   simp only [condO_dec,g3,g4,if_true,guardO_dec,Int.natCast_nonneg,Int.ofNat_lt,han,hc0,and_self,Int.toNat_natCast,Nat.mul_one,hgF,bindO_ok,bge fz ho,we]
   by_cases hk:fkey o<=fkey (clean1 ((fO cs).getD at_ none))
   ·rw [if_pos hk,←all hk]
    exact ih k (by omega) En (c+(En-at_)) (by omega) (by omega) (by omega) (by omega)
   ·rw [if_neg hk,if_neg hk,←non (by show fkey (clean1 _)<_;omega)]
    exact ih k (by omega) En c (by omega) (by omega) (by omega) (by omega)
  ·simp only [condO_dec,g3,if_false,g5,bindO_ok,asAgg_agg,List.length_cons,List.length_nil,guardO_dec,if_true,List.getD_cons_zero,List.tail_cons,asF_flo,bge g1 ho,bge g2 ho,we,hsz,hcn,Int.toNat_natCast,Nat.mul_one]
   by_cases hk:fkey o<=fkey (valN (fO cs) ls c1 c2).1
   ·rw [if_pos hk,←all hk]
    exact ih k (by omega) En (c+(En-at_)) (by omega) (by omega) (by omega) (by omega)
   rw [if_neg hk]
   by_cases hk2:fkey o<=fkey (valN (fO cs) ls c1 c2).2
   ·rw [if_pos hk2]
    have hcut:=flos_cut h (i:=at_) (m:=En-at_) (by omega)
    have hcl2:=hcut.1.2.2
    have hcx:=hcut.1.len
    refine (loopC_rule (fun k3 (r3:Int->Nat->List AV->Int->Int->Nat->List AV->Int->Nat->List AV->Option Nat->Nat->List AV->Int->Nat->List AV->Nat->List AV->Nat->List AV->Int->List (AV × AV × Nat)->Nat->Nat->List AV->Nat->List AV->Int->Nat->List AV->Nat->List AV->Int->Int->Int->Int->Int->Int->Int->Int->Int->Int->Int->Nat->List AV->Int->Int->Int->Option Nat->Option Nat->Option Nat->Option Nat->Option (List RLeaf))=>∀ (j c2_:Nat),j+k3=En-at_->c2_<=at_+j->
     r3 (En:Int) (En-at_) ((cs.drop at_).take (En-at_)) ((En-at_:Nat):Int) (j:Int) ((((n)))) ((((cs)))) ((((A:Int)))) ((((m)))) ((((ls)))) ((((o)))) ((((3)))) (((pc))) ((((A:Int)))) ((((m)))) ((((ls)))) ((((0)))) (((([])))) ((((n)))) ((((cs)))) ((((A:Int)))) ((((encE 0 E)))) (((E.length))) ((((0)))) (((([])))) ((((n)))) ((((cs)))) ((((A:Int)))) (((0))) ((([]))) ((((n)))) ((((cs)))) ((((A:Int)))) (c2_:Int) (((at_:Int))) ((((A:Int)))) ((((↑(n):Int)))) (((F:Int))) (((T:Int))) (c1) (c2) (c1) (c2) ((((n)))) ((((cs)))) ((((A:Int)))) (c1) (c2) (valN (fO cs) ls c1 c2).1 (valN (fO cs) ls c1 c2).2 (valN (fO cs) ls c1 c2).1 (valN (fO cs) ls c1 c2).2=some [.v (.int .i64 ((c2_+cntL o ((((fO cs).drop at_).take (En-at_)).drop j)+cntF (fO cs) o En T:Nat):Int)),.v (.int .i64 0)]) ?_ N (En-at_) (by omega) 0 c (by omega) (by omega)).trans (by
     rw [List.drop_zero,cntF_add (show at_<=En by omega) s2,←Nat.add_assoc];rfl)
    intro k3 r3 ih3 j c2_ hj3 hc3
    rw [hcut.2] at hcx
    by_cases hk3:j<En-at_
    ·have hgj:=hcut.1.get (i:=j) hk3
     rw [hcut.2] at hgj
     have hcj:0<((cs.drop at_).take (En-at_)).length:=by omega
     have wj:IntKind.i64.wrap ((j:Int)+1)=((j+1:Nat):Int):=by rw [wrap64]<;>omega
     have wc2:IntKind.i64.wrap ((c2_:Int)+1)=((c2_+1:Nat):Int):=by rw [wrap64]<;>omega
     rw [drop_cons (d:=none) (show j<(((fO cs).drop at_).take (En-at_)).length by omega)]
     simp only [condO_dec,condO_ge,guardO_dec,Int.ofNat_lt,hk3,hcj,if_true,Int.natCast_nonneg,true_and,and_true,Int.toNat_natCast,Nat.mul_one,hgj,bindO_ok,wj,wc2]
     cases hge:geB o ((((fO cs).drop at_).take (En-at_)).getD j none) with
     | true=>
      have ec:cntL o ((((fO cs).drop at_).take (En-at_)).getD j none::(((fO cs).drop at_).take (En-at_)).drop (j+1))=cntL o ((((fO cs).drop at_).take (En-at_)).drop (j+1))+1:=by
       unfold cntL;rw [List.countP_cons_of_pos hge]
      rw [ec,show c2_+(cntL o ((((fO cs).drop at_).take (En-at_)).drop (j+1))+1)=c2_+1+cntL o ((((fO cs).drop at_).take (En-at_)).drop (j+1)) by omega]
      exact ih3 (k3-1) (by omega) (j+1) (c2_+1) (by omega) (by omega)
     | false=>
      have ec:cntL o ((((fO cs).drop at_).take (En-at_)).getD j none::(((fO cs).drop at_).take (En-at_)).drop (j+1))=cntL o ((((fO cs).drop at_).take (En-at_)).drop (j+1)):=by
       unfold cntL;rw [List.countP_cons_of_neg (by rw [hge];simp)]
      rw [ec]
      exact ih3 (k3-1) (by omega) (j+1) c2_ (by omega) (by omega)
    ·have hz:(((fO cs).drop at_).take (En-at_)).drop j=[]:=by rw [List.drop_eq_nil_iff];omega
     have e0:cntL o []=0:=rfl
     simp only [condO_dec,Int.ofNat_lt,hk3,if_false,hz,e0,Nat.add_zero]
     exact ih k (by omega) En c2_ (by omega) (by omega) (by omega) (by omega)
   ·rw [if_neg hk2,←non (by omega)]
    exact ih k (by omega) En c (by omega) (by omega) (by omega) (by omega)
end Go.Abs
end
noncomputable section
namespace Go.Abs
open Go.Proofs Classical Go.Abs.Fin
theorem run_42' {n:Nat} {cs:List AV} {o:Option Nat} (h:Flos n cs):(fsM mzO waysQ (n+1) 12).call (List RLeaf) 42 [.ofB (.list n cs),.ofB (.flo .f32 o)] [] (resK [false])=some [.v (.int .i64 (cntL o (fO cs):Int))]:=by
 rw [run_42]
 have hxl:=h.len
 have hcl:=h.2.2
 have hn:=h.1
 refine (loopC_rule (fun k (r:Nat->List AV->Option Nat->Int->Int->Option (List RLeaf))=>∀ (i c:Nat),i+k=n->c<=i->
  r n cs o (c:Int) (i:Int)=some [.v (.int .i64 ((c+cntL o ((fO cs).drop i):Nat):Int))]) ?_ (n+1) n (by omega) 0 0 (by omega) (by omega)).trans (by simp)
 intro k r ih i c hi hc
 by_cases hk:i<n
 ·have p0:0<cs.length:=by omega
  have wi:IntKind.i64.wrap ((i:Int)+1)=((i+1:Nat):Int):=by rw [wrap64]<;>omega
  have wc:IntKind.i64.wrap ((c:Int)+1)=((c+1:Nat):Int):=by rw [wrap64]<;>omega
  rw [drop_cons (d:=none) (show i<(fO cs).length by omega)]
  simp only [shut_eq,condO_dec,condO_ge,guardO_dec,Int.ofNat_lt,hk,p0,if_true,Int.natCast_nonneg,true_and,and_true,Int.toNat_natCast,Nat.mul_one,h.get hk,bindO_ok,wi,wc]
  cases hge:geB o ((fO cs).getD i none) with
  | true=>
   have ec:cntL o ((fO cs).getD i none::(fO cs).drop (i+1))=cntL o ((fO cs).drop (i+1))+1:=by
    unfold cntL;rw [List.countP_cons_of_pos hge]
   rw [ec,show c+(cntL o ((fO cs).drop (i+1))+1)=c+1+cntL o ((fO cs).drop (i+1)) by omega]
   exact ih (k-1) (by omega) (i+1) (c+1) (by omega) (by omega)
  | false=>
   have ec:cntL o ((fO cs).getD i none::(fO cs).drop (i+1))=cntL o ((fO cs).drop (i+1)):=by
    unfold cntL;rw [List.countP_cons_of_neg (by rw [hge];simp)]
   rw [ec]
   exact ih (k-1) (by omega) (i+1) c (by omega) (by omega)
 ·have hz:(fO cs).drop i=[]:=by rw [List.drop_eq_nil_iff];omega
  have e0:cntL o []=0:=rfl
  simp only [shut_eq,condO_dec,Int.ofNat_lt,hk,if_false,hz,e0,Nat.add_zero]
def FPrs (n:Nat) (cs:List AV):Prop:=n<=100000/\Flos (2*n) cs
theorem run_43' {n m:Nat} {cs ds:List AV} (h:FPrs n cs) (h':FPrs m ds):(fsM mzO waysQ (n+1) 12).call (List RLeaf) 43 [.ofB (.list n cs),.ofB (.list m ds)] [] (resK [false])=some [.v (.bool (sameF (fO cs) (fO ds)))]:=by
 rw [run_43]
 obtain ⟨hn,e2⟩:=h
 obtain ⟨hm,d2⟩:=h'
 simp only [shut_eq,condO_bne,Int.ofNat_inj]
 by_cases hnn:n=m
 case neg=>
  have:sameF (fO cs) (fO ds)=false:=by
   unfold sameF
   rw [e2.len,d2.len,beq_eq_false_iff_ne.2 (by omega),Bool.false_and]
  rw [if_neg hnn,this]
 subst hnn
 rw [if_pos rfl]
 have hsf:sameF (fO cs) (fO ds)=(List.range (2*n)).all fun t=>ordO .f32 ((fO cs).getD t none) ((fO ds).getD t none)==some .eq:=by
  unfold sameF
  rw [e2.len,d2.len,beq_self_eq_true,Bool.true_and]
 rw [hsf]
 have hcl:=e2.2.2
 have hdl:=d2.2.2
 refine (loopC_rule (fun k2 (r2:Nat->List AV->Nat->List AV->Int->Option (List RLeaf))=>∀ (j:Nat),j+k2=n->
  r2 n cs n ds (j:Int)=some [.v (.bool (((List.range (2*n)).drop (2*j)).all fun t=>ordO .f32 ((fO cs).getD t none) ((fO ds).getD t none)==some .eq))]) ?_ (n+1) n (by omega) 0 (by omega)).trans (by simp)
 intro k2 r2 ih2 j hj
 by_cases hk2:j<n
 ·have ge1:=e2.get (i:=2*j) (by omega)
  have ge2:=e2.get (i:=2*j+1) (by omega)
  have gd1:=d2.get (i:=2*j) (by omega)
  have gd2:=d2.get (i:=2*j+1) (by omega)
  have wj:IntKind.i64.wrap ((j:Int)+1)=((j+1:Nat):Int):=by rw [wrap64]<;>omega
  have q0:0<cs.length:=by omega
  have q0':0<ds.length:=by omega
  have q1:(2*j+2<=cs.length)=True:=eq_true (by omega)
  have q1':(2*j+2<=ds.length)=True:=eq_true (by omega)
  have hcm:j*2=2*j:=by omega
  rw [range_all_drop (show 2*j<2*n by omega),range_all_drop (show 2*j+1<2*n by omega)]
  simp only [shut_eq,condO_dec,condO_not,guardO_dec,Int.ofNat_lt,hk2,q0,q0',if_true,Int.natCast_nonneg,true_and,and_true,Int.toNat_natCast,hcm,q1,q1',ge1,ge2,gd1,gd2,bindO_ok,wj,Bool.and_true]
  have:=ih2 (k2-1) (by omega) (j+1) (by omega)
  rw [show 2*(j+1)=2*j+1+1 by omega] at this
  rw [this]
  cases (ordO .f32 ((fO cs).getD (2*j) none) ((fO ds).getD (2*j) none)==some .eq)<;>
  cases (ordO .f32 ((fO cs).getD (2*j+1) none) ((fO ds).getD (2*j+1) none)==some .eq)<;>simp
 ·have hz:(List.range (2*n)).drop (2*j)=[]:=by rw [List.drop_eq_nil_iff,List.length_range];omega
  simp only [shut_eq,condO_dec,Int.ofNat_lt,hk2,if_false,hz,List.all_nil]
def zoomF (xs:List (Option Nat)) (F M C:Nat):Nat->Nat->List (Option Nat)
 | 0,_=>[]
 | k+1,j=>[extV .lt (((xs.drop (F+j*M / C)).take (F+(j+1)*M / C-(F+j*M / C))).getD 0 none) ((xs.drop (F+j*M / C)).take (F+(j+1)*M / C-(F+j*M / C))),
   extV .gt (((xs.drop (F+j*M / C)).take (F+(j+1)*M / C-(F+j*M / C))).getD 0 none) ((xs.drop (F+j*M / C)).take (F+(j+1)*M / C-(F+j*M / C)))]++zoomF xs F M C k (j+1)
theorem zoomF_len (xs:List (Option Nat)) (F M C:Nat):∀ (k j:Nat),(zoomF xs F M C k j).length=2*k
 | 0,j=>rfl
 | k+1,j=>by rw [zoomF,List.length_append,zoomF_len xs F M C k (j+1)];simp only [List.length_cons,List.length_nil];omega
theorem run_40' {n F T C N:Nat} {cs:List AV} (h:Flos n cs) (hn:n<=4096) (hFT:F<=T) (hTn:T<=n) (hC1:1<=C) (hC2:C<=2048) (hCM:C<=T-F) (hN:n<N):
  (fsM mzO waysQ N 12).call (List RLeaf) 40 [.ofB (.list n cs),.ofB (.int .i64 (F:Int)),.ofB (.int .i64 (T:Int)),.ofB (.int .i64 (C:Int))] [] (resK [true])=
  some [.fz ((zoomF (fO cs) F (T-F) C C 0).length / 2) (flosL (zoomF (fO cs) F (T-F) C C 0))]:=by
 rw [run_40]
 have hxl:=h.len
 have hcl:=h.2.2
 have wm:IntKind.i64.wrap ((T:Int)-(F:Int))=((T-F:Nat):Int):=by rw [wrap64]<;>omega
 refine (loopC_rule (fun k (r:Nat->List AV->Int->Int->Int->Int->Nat->List AV->Nat->List AV->Option (List RLeaf))=>∀ (j cnt:Nat) (acc:List (Option Nat)) (x6:Nat) (x7:List AV),j+k=C->acc.length=2*cnt->cnt<=j->
  r n cs (F:Int) (T:Int) (C:Int) (j:Int) x6 x7 cnt (flosL acc)=some [.fz ((acc++zoomF (fO cs) F (T-F) C k j).length / 2) (flosL (acc++zoomF (fO cs) F (T-F) C k j))]) ?_ N C (by omega) 0 0 [] _ _ (by omega) rfl (by omega)).trans (by simp)
 intro k r ih j cnt acc x6 x7 hj hacc hcj
 by_cases hk:j<C
 case neg=>
  have:k=0:=by omega
  subst this
  have hcc:acc.length / 2=cnt:=by omega
  simp only [shut_eq,condO_dec,Int.ofNat_lt,hk,if_false,zoomF,List.append_nil,hcc]
 obtain ⟨k,rfl⟩:∃ k',k=k' + 1:=⟨k-1,by omega⟩
 have wj:IntKind.i64.wrap ((j:Int)+1)=((j+1:Nat):Int):=by rw [wrap64]<;>omega
 have nzC:((C:Int)≠0)=True:=eq_true (by omega)
 have wa:=col_wrap (F:=F) (M:=T-F) (j:=j) hC1 (by omega) hC2 (by omega) (by omega)
 have wb:=col_wrap (F:=F) (M:=T-F) (j:=j+1) hC1 (by omega) hC2 (by omega) (by omega)
 have hlt:=col_lt (j:=j) hC1 hCM
 have hle:=col_le (M:=T-F) (j:=j+1) hC1 (by omega)
 rw [zoomF]
 generalize hF2:F+j*(T-F) / C=F2 at wa
 generalize hT2:F+(j+1)*(T-F) / C=T2 at wb
 have hcut:=flos_cut h (i:=F2) (m:=T2-F2) (by omega)
 have g1:((0:Int)<=(F2:Int)/\(F2:Int)<=(T2:Int)/\(T2:Int)<=(n:Int))=True:=eq_true (by omega)
 have g2:(n=cs.length)=True:=eq_true hcl.symm
 have g3:(0<T2-F2)=True:=eq_true (by omega)
 have hg5:((cnt+1)*9<=549755813888)=True:=eq_true (by omega)
 simp only [shut_eq,condO_dec,guardO_dec,Int.ofNat_lt,hk,if_true,nzC,wm,wj,wa,wb,g1,g2,g3,Int.toNat_natCast,Nat.mul_one,hcut.1,hcut.2,and_self,hg5,put_pairN,←flosL_app]
 have:=ih k (by omega) (j+1) (cnt+1) (acc++[extV .lt ((((fO cs).drop F2).take (T2-F2)).getD 0 none) (((fO cs).drop F2).take (T2-F2)),extV .gt ((((fO cs).drop F2).take (T2-F2)).getD 0 none) (((fO cs).drop F2).take (T2-F2))]) x6 x7 (by omega) (by simp [hacc];omega) (by omega)
 rw [List.append_assoc] at this
 exact this
end Go.Abs
end
set_option maxRecDepth 100000
noncomputable section
namespace Go.Abs
open Go.Proofs Classical
theorem run_40'' {n:Nat} {f t c:Int} {cs:List AV} (h:Flos n cs) (h':n<=4096/\0<=f/\f<=t/\t<=n/\1<=c/\c<=2048/\c<=t-f):
  (fsM mzO waysQ (n+1) 12).call (List RLeaf) 40 [.ofB (.list n cs),.ofB (.int .i64 f),.ofB (.int .i64 t),.ofB (.int .i64 c)] [] (resK [true])=
  some [.fz ((zoomF (fO cs) f.toNat (t-f).toNat c.toNat c.toNat 0).length / 2) (flosL (zoomF (fO cs) f.toNat (t-f).toNat c.toNat c.toNat 0))]:=by
 obtain ⟨h1,h2,h3,h4,h5,h6,h7⟩:=h'
 obtain ⟨F,rfl⟩:=Int.eq_ofNat_of_zero_le h2
 obtain ⟨T,rfl⟩:=Int.eq_ofNat_of_zero_le (show 0<=t by omega)
 obtain ⟨C,rfl⟩:=Int.eq_ofNat_of_zero_le (show 0<=c by omega)
 rw [show ((T:Int)-(F:Int)).toNat=T-F by omega]
 exact run_40' h h1 (by omega) (by omega) (by omega) (by omega) (by omega) (by omega)
def eExt:Ent:=fun args' R K=>match args' with
 | [.list n cs,.agg [.int .i64 b,.list m ls],.int .i64 f,.int .i64 t]=>gO (S_ (decide (Flos n cs/\Lvs m ls))) (K [.v (.agg [.flo .f32 (S_ ((ext35V n (fO cs) b m ls f t).1)),.flo .f32 (S_ ((ext35V n (fO cs) b m ls f t).2))]),.v (.int .i64 (S_ (ext35E n (fO cs) b m ls f t)))])
 | _=>none
theorem eExt_35:EntOk Tryz.prog 35 eExt:=by
 intro args' R K r ha h
 unfold eExt at h
 split at h
 ·rename_i n cs b m ls f t
  obtain ⟨h1,h2⟩:=guardO_some h
  rw [shut_eq] at h1
  have h1':=of_decide_eq_true h1
  refine ⟨[.v (.agg [.flo .f32 ((ext35V n (fO cs) b m ls f t).1),.flo .f32 ((ext35V n (fO cs) b m ls f t).2)]),.v (.int .i64 (ext35E n (fO cs) b m ls f t))],fun _ _=>by simp only [eExt,shut_eq,decide_eq_true h1',gO],?_,con_of mzO_ok (W:=waysQ) (N:=n+m+5021) (k:=12) (ms:=[false,false]) ?_ ha trivial⟩
  ·intro l hl;rcases List.mem_cons.1 hl with rfl | hl
   ·exact (leaf_agg (cells_ff _ _))
   rcases List.mem_cons.1 hl with rfl | hl
   ·exact leaf_int
   cases hl
  ·exact run_35' h1'.1 h1'.2 (by omega)
 ·cases h
def eZoom:Ent:=fun args' R K=>match args' with
 | [.list n cs,.agg [.int .i64 b,.list m ls],.int .i64 f,.int .i64 t,.int .i64 c]=>gO (S_ (decide (Flos n cs/\Lvs m ls))) (K [.fz (S_ ((zoomV n (fO cs) b m ls f t c).length / 2)) (S_ (flosL (zoomV n (fO cs) b m ls f t c))),.v (.int .i64 (S_ (zoomE n (fO cs) b m ls f t c)))])
 | _=>none
theorem eZoom_36:EntOk Tryz.prog 36 eZoom:=by
 intro args' R K r ha h
 unfold eZoom at h
 split at h
 ·rename_i n cs b m ls f t c
  obtain ⟨h1,h2⟩:=guardO_some h
  rw [shut_eq] at h1
  have h1':=of_decide_eq_true h1
  refine ⟨[.fz ((zoomV n (fO cs) b m ls f t c).length / 2) (flosL (zoomV n (fO cs) b m ls f t c)),.v (.int .i64 (zoomE n (fO cs) b m ls f t c))],fun _ _=>by simp only [eZoom,shut_eq,decide_eq_true h1',gO],?_,con_of mzO_ok (W:=waysQ) (N:=n+m+5021) (k:=12) (ms:=[true,false]) ?_ ha ⟨flosL_plain,trivial⟩⟩
  ·intro l hl;rcases List.mem_cons.1 hl with rfl | hl
   ·exact (leaf_fz (flosL_plain))
   rcases List.mem_cons.1 hl with rfl | hl
   ·exact leaf_int
   cases hl
  ·exact run_36' h1'.1 h1'.2 (by omega)
 ·cases h
def eCount:Ent:=fun args' R K=>match args' with
 | [.list n cs,.agg [.int .i64 b,.list m ls],.int .i64 f,.int .i64 t,.flo .f32 o]=>gO (S_ (decide (Flos n cs/\Lvs m ls))) (K [.v (.int .i64 (S_ ((cntV n (fO cs) b m ls f t o:Int)))),.v (.int .i64 (S_ (cntE n (fO cs) b m ls f t o)))])
 | _=>none
theorem eCount_37:EntOk Tryz.prog 37 eCount:=by
 intro args' R K r ha h
 unfold eCount at h
 split at h
 ·rename_i n cs b m ls f t o
  obtain ⟨h1,h2⟩:=guardO_some h
  rw [shut_eq] at h1
  have h1':=of_decide_eq_true h1
  refine ⟨[.v (.int .i64 ((cntV n (fO cs) b m ls f t o:Int))),.v (.int .i64 (cntE n (fO cs) b m ls f t o))],fun _ _=>by simp only [eCount,shut_eq,decide_eq_true h1',gO],?_,con_of mzO_ok (W:=waysQ) (N:=n+m+5021) (k:=12) (ms:=[false,false]) ?_ ha trivial⟩
  ·intro l hl;rcases List.mem_cons.1 hl with rfl | hl
   ·exact leaf_int
   rcases List.mem_cons.1 hl with rfl | hl
   ·exact leaf_int
   cases hl
  ·exact run_37' h1'.1 h1'.2 (by omega)
 ·cases h
def eZoomR:Ent:=fun args' R K=>match args' with
 | [.list n cs,.int .i64 f,.int .i64 t,.int .i64 c]=>gO (S_ (decide (Flos n cs/\n<=4096/\0<=f/\f<=t/\t<=n/\1<=c/\c<=2048/\c<=t-f))) (K [.fz (S_ ((zoomF (fO cs) f.toNat (t-f).toNat c.toNat c.toNat 0).length / 2)) (S_ (flosL (zoomF (fO cs) f.toNat (t-f).toNat c.toNat c.toNat 0)))])
 | _=>none
theorem eZoomR_40:EntOk Tryz.prog 40 eZoomR:=by
 intro args' R K r ha h
 unfold eZoomR at h
 split at h
 ·rename_i n cs f t c
  obtain ⟨h1,h2⟩:=guardO_some h
  rw [shut_eq] at h1
  have h1':=of_decide_eq_true h1
  refine ⟨[.fz ((zoomF (fO cs) f.toNat (t-f).toNat c.toNat c.toNat 0).length / 2) (flosL (zoomF (fO cs) f.toNat (t-f).toNat c.toNat c.toNat 0))],fun _ _=>by simp only [eZoomR,shut_eq,decide_eq_true h1',gO],?_,con_of mzO_ok (W:=waysQ) (N:=n+1) (k:=12) (ms:=[true]) ?_ ha ⟨flosL_plain,trivial⟩⟩
  ·intro l hl;rcases List.mem_cons.1 hl with rfl | hl
   ·exact (leaf_fz (flosL_plain))
   cases hl
  ·exact run_40'' h1'.1 h1'.2
 ·cases h
def eCountR:Ent:=fun args' R K=>match args' with
 | [.list n cs,.flo .f32 o]=>gO (S_ (decide (Flos n cs))) (K [.v (.int .i64 (S_ ((cntL o (fO cs):Int))))])
 | _=>none
theorem eCountR_42:EntOk Tryz.prog 42 eCountR:=by
 intro args' R K r ha h
 unfold eCountR at h
 split at h
 ·rename_i n cs o
  obtain ⟨h1,h2⟩:=guardO_some h
  rw [shut_eq] at h1
  have h1':=of_decide_eq_true h1
  refine ⟨[.v (.int .i64 ((cntL o (fO cs):Int)))],fun _ _=>by simp only [eCountR,shut_eq,decide_eq_true h1',gO],?_,con_of mzO_ok (W:=waysQ) (N:=n+1) (k:=12) (ms:=[false]) ?_ ha trivial⟩
  ·intro l hl;rcases List.mem_cons.1 hl with rfl | hl
   ·exact leaf_int
   cases hl
  ·exact run_42' h1'
 ·cases h
def eSamePr:Ent:=fun args' R K=>match args' with
 | [.list n cs,.list m ds]=>gO (S_ (decide (FPrs n cs/\FPrs m ds))) (K [.v (.bool (S_ (sameF (fO cs) (fO ds))))])
 | _=>none
theorem eSamePr_43:EntOk Tryz.prog 43 eSamePr:=by
 intro args' R K r ha h
 unfold eSamePr at h
 split at h
 ·rename_i n cs m ds
  obtain ⟨h1,h2⟩:=guardO_some h
  rw [shut_eq] at h1
  have h1':=of_decide_eq_true h1
  refine ⟨[.v (.bool (sameF (fO cs) (fO ds)))],fun _ _=>by simp only [eSamePr,shut_eq,decide_eq_true h1',gO],?_,con_of mzO_ok (W:=waysQ) (N:=n+1) (k:=12) (ms:=[false]) ?_ ha trivial⟩
  ·intro l hl;rcases List.mem_cons.1 hl with rfl | hl
   ·exact leaf_bool
   cases hl
  ·exact run_43' h1'.1 h1'.2
 ·cases h
def mzR:List (FuncId × Ent):=(35,eExt)::(36,eZoom)::(37,eCount)::(40,eZoomR)::(42,eCountR)::(43,eSamePr)::mzO
theorem mzR_ok:TabLOk Tryz.prog mzR:=⟨eExt_35,eZoom_36,eCount_37,eZoomR_40,eCountR_42,eSamePr_43,mzO_ok⟩
end Go.Abs
end
