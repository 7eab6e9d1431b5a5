/- Part 44 of the library that the proof of the statement uses: an abstract run of the program, proved right, and what its functions give. -/
import Derived.Test.YtkloadomnblkeaaGreatDoorPt42
import Derived.Test.YtkloadomnblkeaaGreatDoorPt43
set_option linter.unusedVariables false
set_option linter.unusedSimpArgs false

noncomputable section
namespace Go.Abs
open Go.Proofs Classical Go.Abs.Fin
theorem cntN_le (a n t q:Int):∀ (k:Nat) (at_:Int),cntN a n t q k at_<=k
 | 0,at_=>Nat.le_refl _
 | k+1,at_=>by
  rw [cntN]
  have:=cntN_le a n t q k (bestC n t at_ 14 0 a (-1,at_,at_+1)).2.2
  split
  ·split<;>omega
  ·omega
theorem node_ends {A n at_:Nat} {L I X:Int} (h:NodeOk A n at_ (L,I,X)) (ha:at_<n):endsL A n L I=((at_:Int),X):=by
 unfold endsL
 rcases h with ⟨e1,e2,e3⟩ | ⟨a,b,e1,e2,e3,e4,_⟩
 ·dsimp only at e1 e2 e3
  subst e1 e2 e3
  rw [if_pos (by omega)]
  exact Prod.ext rfl (by show (at_:Int)+1=_;omega)
 ·dsimp only at e1 e2 e4
  subst e1 e2 e4
  rw [if_neg (by omega),Int.toNat_natCast]
  have h1:((A:Int)*2 ^ a*(b:Int))=(at_:Int):=by
   rw [←e3,Nat.mul_comm b];simp
  refine Prod.ext ?_ ?_
  ·show min (n:Int) ((A:Int)*2 ^ a*(b:Int))=_
   rw [h1];omega
  ·show min (n:Int) ((A:Int)*2 ^ a*((b:Int)+1))=_
   rw [Int.mul_add,h1,Int.mul_one]
   have:((A:Int)*2 ^ a)=((A*2 ^ a:Nat):Int):=by simp
   rw [this];omega
theorem run_12' {n N:Nat} {cs:List AV} {b f t c:Int} {o:Option Nat} (h:Flos n cs) (hN:n+5020<N):
  (fsM mzS waysQ N 12).call (List RLeaf) 12 [.s (.agg [.b (.list n cs),.b (.int .i64 b)]),.s (.agg [.b (.int .i64 f),.b (.int .i64 t),.b (.int .i64 c),.b (.flo .f32 o)])] [] (resK [false])=some [.v (.bool true)]:=by
 rw [run_12]
 have hxl:=h.len
 have hcl:=h.2.2
 simp only [shut_eq,guardO_dec,h,if_true,true_and]
 cases hfew:fewB n (fO cs) b with
 | false=>rfl
 | true=>
 have hf':=of_decide_eq_true hfew
 obtain ⟨hn64,hs,hb1,hb2⟩:=hf'
 by_cases hr:(if f<0\/f>(n:Int)\/t<0\/t>(n:Int) then (3:Int) else if t<f then 11 else 0)=0
 case neg=>
  have:((if f<0\/f>(n:Int)\/t<0\/t>(n:Int) then (3:Int) else if t<f then 11 else 0) != 0)=true:=bne_iff_ne.2 hr
  rw [this];rfl
 cases ho:finB o with
 | false=>rw [hr];rfl
 | true=>
 rw [hr]
 have hrange:0<=f/\f<=t/\t<=n:=by
  repeat' (split at hr)
  all_goals omega
 obtain ⟨A,rfl⟩:=Int.eq_ofNat_of_zero_le (show 0<=b by omega)
 obtain ⟨F,rfl⟩:=Int.eq_ofNat_of_zero_le (show 0<=f by omega)
 obtain ⟨T,rfl⟩:=Int.eq_ofNat_of_zero_le (show 0<=t by omega)
 have e1:buildE n (fO cs) (A:Int)=0:=by unfold buildE;rw [if_pos hs,if_neg (by omega)]
 have e2:buildV n (fO cs) (A:Int)=((A:Int),levelsF (fO cs) A):=by unfold buildV;rw [if_pos e1,Int.toNat_natCast]
 obtain ⟨hn4,hfin⟩:=samp_all hs
 have hsame:=levels_same (xs:=fO cs) (b:=A) (by omega) (by omega) hfin
 have hLv:=hsame.lvsL (by rw [hsame.len];have:=refLv_len (fO cs) A;omega)
 have hchk:=own_tree hxl hs (A:=A) (by omega) (by omega)
 have hm14:(levelsF (fO cs) A).length<=14:=by rw [hsame.len];exact refLv_len _ _
 simp only [e1,e2,hLv,show (n<=100000000)=True from eq_true (by omega),and_self,if_true]
 generalize levelsF (fO cs) A=W at hchk hLv hm14
 clear e1 e2 hsame
 generalize W.length=m at hchk hLv hm14 ⊢
 generalize lvCells W=ls at hchk hLv ⊢
 have hrng:rngE n (fO cs) (A:Int) m ls (F:Int) (T:Int)=0:=by
  unfold rngE;rw [if_pos hchk,if_neg (by omega),if_neg (by omega),if_neg (by omega)]
 obtain ⟨A',hA',hT⟩:=tree_ok hxl hchk
 obtain rfl:A=A':=by omega
 have wm:IntKind.i64.wrap ((T:Int)-(F:Int))=((T-F:Nat):Int):=by rw [wrap64]<;>omega
 have b0:(!true)=false:=rfl
 have z00:((0:Int) != 0)=false:=rfl
 have c1:covE (A:Int) n F T=0:=by unfold covE;rw [if_neg (by omega),if_neg (by omega),if_neg (by omega),if_neg (by omega),if_neg (by omega)]
 have c2:covL (A:Int) n F T=coverL A n T 4097 F:=by unfold covL;rw [if_pos c1]
 have c3:cntE n (fO cs) (A:Int) m ls (F:Int) (T:Int) o=0:=by unfold cntE;rw [if_pos hrng,if_pos ho]
 have c4:cntV n (fO cs) (A:Int) m ls (F:Int) (T:Int) o=cntF (fO cs) o F T:=by unfold cntV;rw [if_pos c3];rfl
 have hfewc:=coverL_few (A:=A) (n:=n) (t:=T) (by omega) (by omega) 4097 F (by omega)
 have hlen2:=(coverL_len (A:Int) (n:Int) (T:Int) 4097 (F:Int)).1
 have w0:IntKind.i64.wrap (IntKind.i64.wrap (0+0)+0)=0:=rfl
 have d1:decide ((((coverL (A:Int) (n:Int) (T:Int) 4097 (F:Int)).length / 2:Nat):Int)>((T-F:Nat):Int))=false:=decide_eq_false (by omega)
 simp only [c1,c2,c3,c4,wm,b0,z00,w0,d1,condO_fx,bindO_ok,condO_ts,Bool.or_self]
 clear c1 c2 c3 c4 d1 hrng hchk hfew hs hr
 obtain ⟨V,hV⟩:∃ V,V=coverL (A:Int) (n:Int) (T:Int) 4097 (F:Int):=⟨_,rfl⟩
 rw [←hV] at hfewc hlen2 ⊢
 have hVn:Nums .i64 V.length (numsL .i64 V):=Nums_L (by omega)
 have hVl:(numsL .i64 V).length=V.length:=by unfold numsL;rw [List.length_map]
 have hgv:∀ i,i<V.length->asInt .i64 ((numsL .i64 V).getD i .top)=some (V.getD i 0):=fun i hi=>by
  have:=hVn.ints.get (i:=i) hi
  rwa [numsL_of] at this
 refine loopC_rule (fun kk (r:Int->Int->Nat->List AV->Int->Int->Nat->List AV->Int->Int->Int->Int->Option Nat->Nat->List AV->Int->Nat->List AV->List (AV × AV × Nat)->Nat->Option (List RLeaf))=>∀ (j at_ k:Nat) (x1:Int) (E:List PI) (ck:Nat),x1=(at_:Int)->j+kk=V.length / 2->V.drop (2*j)=coverL A n T k at_->T<at_+k->F<=at_->at_<=T->k<=4097->
   (∀ q:Int,0<=lookE E q/\lookE E q+(cntN A n T q k at_:Int)=(cntN A n T q 4097 F:Int))->
  r (cntF (fO cs) o F T:Int) x1 (V.length / 2) (numsL .i64 V) ((V.length / 2:Nat):Int) (j:Int) n cs (A:Int) (F:Int) (T:Int) c o 0 [] (A:Int) m ls (encI E) ck=some [.v (.bool true)]) ?_ N (V.length / 2) (by omega) 0 F 4097 _ [] _ rfl (by omega) (by rw [hV];rfl) (by omega) (Nat.le_refl _) (by omega) (Nat.le_refl _) (fun q=>⟨Int.le_refl _,by show (0:Int)+_=_;omega⟩)
 intro kk r ih j at_ k x1 E ck hx1 hj hdrop hk hF hTat hk4 hcnt
 subst hx1
 by_cases hjl:j<V.length / 2
 ·-- a node
  have hne:V.drop (2*j)≠[]:=by rw [Ne,List.drop_eq_nil_iff];omega
  obtain ⟨k,rfl⟩:∃ k',k=k' + 1:=by
   cases k with
   | zero=>rw [hdrop] at hne;exact absurd rfl hne
   | succ k=>exact ⟨k,rfl⟩
  have hlt:at_<T:=by
   rcases Nat.lt_or_ge at_ T with h | h
   ·exact h
   ·rw [hdrop,coverL,if_neg (by omega)] at hne;exact absurd rfl hne
  rw [coverL,if_pos (by omega)] at hdrop
  have hcs:∀ q:Int,cntN A n T q (k+1) at_=(if (bestC (n:Int) (T:Int) (at_:Int) 14 0 (A:Int) (-1,(at_:Int),(at_:Int)+1)).1=q then 1 else 0)+cntN A n T q k (bestC (n:Int) (T:Int) (at_:Int) 14 0 (A:Int) (-1,(at_:Int),(at_:Int)+1)).2.2:=fun q=>by rw [cntN,if_pos (by omega)]
  have hb:=best_start (a:=(A:Int)) (n:=(n:Int)) (to:=(T:Int)) (at_:=(at_:Int)) (by omega) (by omega) (by omega) (by omega) _ rfl
  have hnode:=start_node (A:=A) (n:=n) (at_:=at_) (to:=(T:Int))
  generalize bestC (n:Int) (T:Int) (at_:Int) 14 0 (A:Int) (-1,(at_:Int),(at_:Int)+1)=res at hb hnode hdrop hcs
  obtain ⟨L,I,X⟩:=res
  dsimp only at hdrop hcs hb
  obtain ⟨_,hb1,hb2,hb3,hb4,hb5,hb6⟩:=hb
  have hends:=node_ends hnode (by omega)
  obtain ⟨En,rfl⟩:=Int.eq_ofNat_of_zero_le (show 0<=X by omega)
  have hLm:L<(m:Int):=by
   rcases hnode with ⟨q1,_,_⟩ | ⟨a,b',q1,q2,q3,q4,q5⟩
   ·dsimp only at q1;omega
   ·dsimp only at q1
    rw [←hxl] at q5
    obtain ⟨i1,_,_⟩:=node_in hT (by omega) q3 q5
    omega
  have v0:V.getD (2*j) 0=L:=by
   have:=congrArg (fun l=>l.getD 0 0) hdrop
   simpa [List.getD_eq_getElem?_getD,List.getElem?_drop] using this
  have v1:V.getD (2*j+1) 0=I:=by
   have:=congrArg (fun l=>l.getD 1 0) hdrop
   simpa [List.getD_eq_getElem?_getD,List.getElem?_drop] using this
  have hdrop2:V.drop (2*(j+1))=coverL A n T k En:=by
   have:=congrArg (fun l=>l.drop 2) hdrop
   simpa [List.drop_drop,Nat.mul_add] using this
  have wj:IntKind.i64.wrap ((j:Int)+1)=((j+1:Nat):Int):=by rw [wrap64]<;>omega
  have q0:(0<(numsL .i64 V).length)=True:=eq_true (by omega)
  have q3:(2*j+2<=(numsL .i64 V).length)=True:=eq_true (by omega)
  have hcm:j*2=2*j:=by omega
  have g1:=hgv (2*j) (by omega)
  have g2:=hgv (2*j+1) (by omega)
  rw [v0] at g1
  rw [v1] at g2
  have d1:decide (L < -1)=false:=decide_eq_false (by omega)
  have d2:decide (L>=(m:Int))=false:=decide_eq_false (by omega)
  have d3:decide (I<0)=false:=decide_eq_false (by omega)
  have d4:decide (I>(n:Int))=false:=decide_eq_false (by omega)
  have d5:((1:Int)<=(A:Int)/\(A:Int)<=256/\(n:Int)<=4096/\L<=13/\(0:Int)<=I/\I<=4096)=True:=eq_true (by omega)
  have d6:((at_:Int) != (at_:Int))=false:=by rw [bne_self_eq_false]
  have d7:decide ((En:Int)<=(at_:Int))=false:=decide_eq_false (by omega)
  obtain ⟨hl1,hl2⟩:=hcnt L
  have hcL:=cntN_le A n T L 4097 F
  have wv:IntKind.i64.wrap (lookE E L+1)=lookE E L+1:=wrap64 (by omega) (by omega)
  obtain ⟨bq,hlook⟩:=look_int E L
  obtain ⟨ck',hput⟩:=put_int E L (lookE E L+1) ck
  have hai:∀ z:Int,asInt .i64 (.int .i64 z)=some z:=fun z=>rfl
  simp only [condO_dec,guardO_dec,Int.ofNat_lt,hjl,if_true,Int.natCast_nonneg,true_and,and_true,Int.toNat_natCast,hcm,q0,q3,g1,g2,bindO_ok,d1,d2,d3,d4,d5,hends,d6,d7,condO_ts,Bool.or_self,condO_fx,hlook,hai,wv,hput,wj]
  refine ih (kk-1) (by omega) (j+1) En k _ _ _ rfl (by omega) hdrop2 (by omega) (by omega) (by omega) (by omega) fun q=>?_
  obtain ⟨m1,m2⟩:=hcnt q
  rw [hcs q] at m2
  rw [look_put]
  by_cases hq:q=L
  ·subst hq
   rw [if_pos rfl] at m2 ⊢
   omega
  ·rw [if_neg (fun e=>hq e.symm)] at m2
   rw [if_neg hq]
   omega
 ·-- behind the last node
  have hz:V.drop (2*j)=[]:=by rw [List.drop_eq_nil_iff];omega
  rw [hz] at hdrop
  have hat:at_=T:=by
   rcases Nat.lt_or_ge at_ T with hh | hh
   ·obtain ⟨k,rfl⟩:∃ k',k=k' + 1:=⟨k-1,by omega⟩
    rw [coverL,if_pos (by omega)] at hdrop
    cases hdrop
   ·omega
  subst hat
  have hc0:∀ q:Int,cntN A n at_ q k at_=0:=fun q=>by
   cases k with
   | zero=>rfl
   | succ k=>rw [cntN,if_neg (by omega)]
  have hs1:=(cnt_sample (A:=A) (n:=n) (t:=at_) (by omega) (by omega) (by omega) 4097 F (by omega) (by omega)).2.2.2
  have d6:((at_:Int) != (at_:Int))=false:=by rw [bne_self_eq_false]
  obtain ⟨bq,hlook⟩:=look_int E (-1)
  obtain ⟨hl1,hl2⟩:=hcnt (-1)
  rw [hc0] at hl2
  have hai:∀ z:Int,asInt .i64 (.int .i64 z)=some z:=fun z=>rfl
  have wA:IntKind.i64.wrap (2*IntKind.i64.wrap ((A:Int)-1))=2*((A:Int)-1):=by rw [wrap64 (z:=(A:Int)-1) (by omega) (by omega),wrap64 (by omega) (by omega)]
  have d8:decide (lookE E (-1)>2*((A:Int)-1))=false:=decide_eq_false (by omega)
  simp only [condO_dec,Int.ofNat_lt,hjl,if_false,d6,condO_fx,hlook,bindO_ok,hai,wA,d8]
  refine loopC_rule (fun kk (r:Int->Int->Int->Nat->List AV->Int->Int->Int->Int->Option Nat->Nat->List AV->Int->Nat->List AV->List (AV × AV × Nat)->Nat->Option (List RLeaf))=>∀ (l:Nat),l+kk=m->
   r (cntF (fO cs) o F at_:Int) (m:Int) (l:Int) n cs (A:Int) (F:Int) (at_:Int) c o 0 [] (A:Int) m ls (encI E) ck=some [.v (.bool true)]) ?_ N m (by omega) 0 (by omega)
  intro kk2 r2 ih2 l hl
  by_cases hlm:l<m
  ·have wl:IntKind.i64.wrap ((l:Int)+1)=((l+1:Nat):Int):=by rw [wrap64]<;>omega
   obtain ⟨bq,hlook⟩:=look_int E (l:Int)
   obtain ⟨hl1,hl2⟩:=hcnt (l:Int)
   rw [hc0] at hl2
   have hs2:=(cnt_level (A:=A) (n:=n) (t:=at_) (q:=l) (by omega) (by omega) (by omega) 4097 F (by omega) (by omega)).1
   have d9:decide (lookE E (l:Int)>2)=false:=decide_eq_false (by omega)
   simp only [condO_dec,Int.ofNat_lt,hlm,if_true,hlook,bindO_ok,hai,d9,condO_fx,wl]
   have d9':¬ (lookE E (l:Int)>2):=by omega
   simp only [d9',if_false]
   exact ih2 (kk2-1) (by omega) (l+1) (by omega)
  ·have g1:((0:Int)<=(F:Int)/\(F:Int)<=(at_:Int)/\(at_:Int)<=(n:Int))=True:=eq_true (by omega)
   have g2:(n=cs.length)=True:=eq_true hcl.symm
   have hcut:=flos_cut h (i:=F) (m:=at_-F) (by omega)
   have hcx:=hcut.1.len
   have hcl2:=hcut.1.2.2
   rw [hcut.2] at hcx
   simp only [condO_dec,guardO_dec,Int.ofNat_lt,hlm,if_false,g1,g2,if_true,Int.toNat_natCast,Nat.mul_one]
   refine loopC_rule (fun k3 (r3:Int->Int->Nat->List AV->Int->Int->Nat->List AV->Int->Int->Int->Int->Option Nat->Nat->List AV->Int->Nat->List AV->List (AV × AV × Nat)->Nat->Option (List RLeaf))=>∀ (i c2_:Nat),i+k3=at_-F->c2_<=i->c2_+cntL o ((((fO cs).drop F).take (at_-F)).drop i)=cntF (fO cs) o F at_->
    r3 (cntF (fO cs) o F at_:Int) (c2_:Int) (at_-F) ((cs.drop F).take (at_-F)) ((at_-F:Nat):Int) (i:Int) n cs (A:Int) (F:Int) (at_:Int) c o 0 [] (A:Int) m ls (encI E) ck=some [.v (.bool true)]) ?_ N (at_-F) (by omega) 0 0 (by omega) (by omega) (by rw [List.drop_zero,Nat.zero_add];rfl)
   intro k3 r3 ih3 i c2_ hi3 hc3 hsum
   by_cases hk3:i<at_-F
   ·have hgj:=hcut.1.get (i:=i) hk3
    rw [hcut.2] at hgj
    have hcj:0<((cs.drop F).take (at_-F)).length:=by omega
    have wi:IntKind.i64.wrap ((i:Int)+1)=((i+1:Nat):Int):=by rw [wrap64]<;>omega
    have wc2:IntKind.i64.wrap ((c2_:Int)+1)=((c2_+1:Nat):Int):=by rw [wrap64]<;>omega
    rw [drop_cons (d:=none) (show i<(((fO cs).drop F).take (at_-F)).length by omega)] at hsum
    simp only [condO_dec,condO_ge,guardO_dec,Int.ofNat_lt,hk3,hcj,if_true,Int.natCast_nonneg,true_and,and_true,Int.toNat_natCast,Nat.mul_one,hgj,bindO_ok,wi,wc2]
    cases hge:geB o ((((fO cs).drop F).take (at_-F)).getD i none) with
    | true=>
     unfold cntL at hsum
     rw [List.countP_cons_of_pos hge] at hsum
     exact ih3 (k3-1) (by omega) (i+1) (c2_+1) (by omega) (by omega) (by unfold cntL;omega)
    | false=>
     unfold cntL at hsum
     rw [List.countP_cons_of_neg (by rw [hge];simp)] at hsum
     exact ih3 (k3-1) (by omega) (i+1) c2_ (by omega) (by omega) (by unfold cntL;omega)
   ·have hz:(((fO cs).drop F).take (at_-F)).drop i=[]:=by rw [List.drop_eq_nil_iff];omega
    rw [hz] at hsum
    have e0:cntL o []=0:=rfl
    have d10:((cntF (fO cs) o F at_:Int)==(c2_:Int))=true:=beq_iff_eq.2 (by omega)
    simp only [condO_dec,Int.ofNat_lt,hk3,if_false,d10,condO_tx,bindO_ok]
    rfl
end Go.Abs
end
