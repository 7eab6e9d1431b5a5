/- Part 42 of the library of the proof: an abstract run of the program. -/
import Derived.Test.YtkloadomnblkeaaGreatDoorAp40
import Derived.Test.YtkloadomnblkeaaGreatDoorAp41
set_option linter.unusedVariables false
set_option linter.unusedSimpArgs false

noncomputable section
namespace Go.Abs
open Go.Proofs Classical Go.Abs.Fin
theorem nl70:nlZero Tryz.prog 70 (ofV (Go.Value.agg #[Go.Value.float Go.FloatKind.f32 0,Go.Value.float Go.FloatKind.f32 0]))=ofV (Go.Value.agg #[Go.Value.float Go.FloatKind.f32 0,Go.Value.float Go.FloatKind.f32 0]):=by kernel_rfl
theorem nl71:nlZero Tryz.prog 71 (ofV (Go.Value.slice Option.none 0 0))=ofV (Go.Value.slice Option.none 0 0):=by kernel_rfl
theorem cells_app {xs ys:List (Option Nat)}:zrow (ofV (Go.Value.float Go.FloatKind.f32 0)).cells 0++flosL xs++flosL ys=flosL (xs++ys):=by
 simp [zrow,flosL]
theorem run_15' {n m q N:Nat} {cs ls ds:List AV} {b:Int} (h:Flos n cs) (hw:LvsW m ls) (hd:Flos q ds) (hN:n+q+99<N):
  (fsM mzAq waysA N 12).call (List RLeaf) 15 [.ofB (.list n cs),.s (.agg [.b (.int .i64 b),.b (.list m ls)]),.ofB (.list q ds)] [] (resK [false])=some [.v (.bool true)]:=by
 rw [run_15]
 simp only [shut_eq,guardO_dec,hw,h,hd,if_true,true_and]
 cases hlb:lenB (n:Int) 64 4096 with
 | false=>rfl
 | true=>
 cases hlq:lenB (q:Int) 64 4096 with
 | false=>rfl
 | true=>
 cases hsh:shortT m ls with
 | false=>rfl
 | true=>
 have hL:=hw.short hsh
 have hn:n<=64\/(4096<n/\n<=4098):=by
  unfold lenB at hlb
  have w:IntKind.i64.wrap (4096+2)=4098:=rfl
  rw [decide_eq_true_eq,w] at hlb
  omega
 have hq:q<=64\/(4096<q/\q<=4098):=by
  unfold lenB at hlq
  have w:IntKind.i64.wrap (4096+2)=4098:=rfl
  rw [decide_eq_true_eq,w] at hlq
  omega
 have gn:(n<=100000000)=True:=eq_true (by omega)
 have gq:(q<=100000000)=True:=eq_true (by omega)
 have hl0:Lvs 0 []:=⟨by omega,rfl,fun c hc=>by cases hc⟩
 have s0:sameT 0 [] []=true:=rfl
 have f0:Flos 0 []:=⟨by omega,rfl,rfl⟩
 have sf0:sameF (fO (flosL [])) (fO [])=true:=rfl
 have lv0:lvCells []=[]:=rfl
 have ff0:Flos 0 (flosL []):=f0
 have k1:cs.length=n*1:=by rw [Nat.mul_one];exact h.2.2
 have k2:ds.length=q*1:=by rw [Nat.mul_one];exact hd.2.2
 have k3:((0+n)*5<=549755813888)=True:=eq_true (by omega)
 have k4:((0+n+q)*5<=549755813888)=True:=eq_true (by omega)
 simp only [Bool.not_true,condO_fx,bindO_ok,hL,gn,gq,hl0,if_true,and_self,and_true,true_and,beq_self_eq_true,condO_tx]
 by_cases hc:chkT n (fO cs) b m ls=0
 case neg=>
  have e1:appE n (fO cs) b m ls q (fO ds)=chkT n (fO cs) b m ls:=if_neg hc
  have e2:appV n (fO cs) b m ls q (fO ds)=([],0,[]):=if_neg (by rw [e1];exact hc)
  have z:(chkT n (fO cs) b m ls==0)=false:=beq_eq_false_iff_ne.2 hc
  simp only [z,condO_fx,e1,e2,lv0,List.length_nil,hl0,ff0,f0,sf0,and_self,if_true,condO_tx,decide_true,Bool.and_true,s0,beq_self_eq_true]
 by_cases hs:sampErr q (fO ds)=0
 case neg=>
  have e1:appE n (fO cs) b m ls q (fO ds)=sampErr q (fO ds):=by unfold appE;rw [if_pos hc,if_neg hs]
  have e2:appV n (fO cs) b m ls q (fO ds)=([],0,[]):=if_neg (by rw [e1];exact hs)
  have z:(sampErr q (fO ds)==0)=false:=beq_eq_false_iff_ne.2 hs
  simp only [hc,beq_self_eq_true,condO_tx,z,condO_fx,e1,e2,lv0,List.length_nil,hl0,ff0,f0,sf0,and_self,if_true,decide_true,Bool.and_true,s0]
 have hx:sampErr n (fO cs)=0/\¬ (b<1\/b>256):=by
  unfold chkT at hc
  by_cases h1:sampErr n (fO cs)=0
  ·rw [if_pos h1] at hc
   refine ⟨h1,fun hb=>?_⟩
   rw [if_pos hb] at hc
   cases hc
  ·rw [if_neg h1] at hc
   exact absurd hc h1
 obtain ⟨hn4,hfx⟩:=samp_all hx.1
 obtain ⟨hq4,hfy⟩:=samp_all hs
 have hb:=hx.2
 have e1:appE n (fO cs) b m ls q (fO ds)=0:=by unfold appE;rw [if_pos hc,if_pos hs,if_neg (by omega)]
 have e2:appV n (fO cs) b m ls q (fO ds)=((fO cs++fO ds).map clean1,b,levelsF ((fO cs++fO ds).map clean1) b.toNat):=if_pos e1
 have ec:cs=flosL (fO cs):=h.2.1
 have ed:ds=flosL (fO ds):=hd.2.1
 have eall:zrow (ofV (Go.Value.float Go.FloatKind.f32 0)).cells 0++cs++ds=flosL (fO cs++fO ds):=by rw [ec,ed,flosOf_L,flosOf_L];exact cells_app
 have eT:0+n+q=(fO cs++fO ds).length:=by rw [List.length_append,h.len,hd.len];omega
 simp only [hc,hs,beq_self_eq_true,condO_tx,k1,k2,k3,k4,if_true,e1,e2,eall,List.length_map]
 rw [eT]
 obtain ⟨zs,hz⟩:∃ zs,zs=fO cs++fO ds:=⟨_,rfl⟩
 rw [←hz]
 have hzl:zs.length=n+q:=by rw [hz,←eT];omega
 have hzf:FinL zs:=fun x hx=>by
  rw [hz] at hx
  rcases List.mem_append.1 hx with hx | hx
  ·exact hfx x hx
  ·exact hfy x hx
 obtain ⟨T,hT⟩:∃ T,T=zs.length:=⟨_,rfl⟩
 have hT4:T<=128:=by omega
 have hNT:T+20<N:=by omega
 obtain ⟨B,rfl⟩:=Int.eq_ofNat_of_zero_le (show 0<=b by omega)
 have hB1:1<=B:=by omega
 have hB2:B<=256:=by omega
 rw [←hT]
 have hFz:Flos T (flosL zs):=by rw [hT];exact Flos_L (by omega)
 have hFc:Flos T (flosL (zs.map clean1)):=by
  have:=Flos_L (xs:=zs.map clean1) (by rw [List.length_map];omega)
  rw [List.length_map,←hT] at this
  exact this
 have hzc:FinL (zs.map clean1):=fun x hx'=>by
  obtain ⟨y,hy,rfl⟩:=List.mem_map.1 hx'
  exact finB_clean (hzf y hy)
 have hka:keyAt (zs.map clean1)=keyAt zs:=by
  funext i
  unfold keyAt
  by_cases hi:i<zs.length
  ·rw [List.getD_eq_getElem?_getD,List.getD_eq_getElem?_getD,List.getElem?_map,List.getElem?_eq_getElem hi]
   exact key_clean (hzf _ (List.getElem_mem _))
  ·rw [List.getD_eq_getElem?_getD,List.getD_eq_getElem?_getD,List.getElem?_eq_none (by rw [List.length_map];omega),List.getElem?_eq_none (by omega)]
 have hsame:=levels_same' (xs:=zs) (ys:=zs.map clean1) (b:=B) hB1 (by omega) hzf hzc (List.length_map _) hka
 have hSF:sameF (zs.map clean1) zs=true:=sameF_clean hzf
 rw [Int.toNat_natCast]
 obtain ⟨W,hW⟩:∃ W,W=levelsF (zs.map clean1) B:=⟨_,rfl⟩
 obtain ⟨W',hW'⟩:∃ W',W'=refLv zs B:=⟨_,rfl⟩
 rw [←hW,←hW'] at hsame
 rw [←hW]
 have hwl:W'.length<=14:=by rw [hW'];exact refLv_len _ _
 have hle:=hsame.len
 have hLL:=hsame.lvsL (by omega)
 have hLM:=hsame.lvsM (by omega)
 have hST:=sameT_of hsame
 have gF:(Flos T (flosL (zs.map clean1))/\Flos T (flosL zs))=True:=eq_true ⟨hFc,hFz⟩
 have hcl:=hFz.2.2
 clear hW ec ed eall eT e1 e2 hfx hfy k1 k2 hzc hka
 have done:∀ (Z:List (List (Option Nat))),Z=W'->∀ x y:Option (List RLeaf),cO (decide True&&decide (W.length=Z.length)&&sameT W.length (lvCells W) (lvCells Z)) x y=x:=by
  intro Z hZ x y
  rw [hZ,hST,decide_eq_true hle]
  rfl
 by_cases hn0:T=0
 ·have eZ:W'=[]:=by rw [hW'];exact if_pos (by omega)
  refine (loopC_rule (fun k (r:(Int->Int->Nat->List AV->Nat->List AV->Int->Nat->List AV->Nat->List AV->Nat->List AV->Int->Nat->List AV->Nat->List AV->Nat->List AV->Int->Nat->List AV->Int->Nat->List AV->Option (List RLeaf)) × PUnit.{1})=>
   r.1 (B:Int) (B:Int) m ls 0 [] (B:Int) W.length (lvCells W) 0 [] 0 [] 0 0 [] T (flosL zs) 0 [] 0 0 [] (B:Int) 0 []=some [.v (.bool true)]) ?_ N 0 (by omega))
  intro k r ih
  have g:((T:Int)>0)=False:=eq_false (by omega)
  have d0:=done [] eZ.symm
  have lv0:lvCells []=[]:=rfl
  rw [lv0,List.length_nil] at d0
  have g1:(Lvs W.length (lvCells W)/\Lvs 0 [])=True:=eq_true ⟨hLL,hl0⟩
  simp only [condO_dec,g,if_false,gF,if_true,flosOf_L,hSF,condO_tx,hLL,hl0,and_self,d0]
 have eZ:W'=refF zs 13 B:=by rw [hW'];exact if_neg (by omega)
 refine (loopC_rule (fun k (r:(Int->Int->Nat->List AV->Nat->List AV->Int->Nat->List AV->Nat->List AV->Nat->List AV->Int->Nat->List AV->Nat->List AV->Nat->List AV->Int->Nat->List AV->Int->Nat->List AV->Option (List RLeaf)) × PUnit.{1})=>
  ∀ (w:Nat) (pre:List (List (Option Nat))),1<=w->w<=10000->T<=w*2 ^ k->pre.length+k<=13->pre++refF zs k w=W'->
   r.1 (w:Int) (B:Int) m ls 0 [] (B:Int) W.length (lvCells W) 0 [] 0 [] 0 0 [] T (flosL zs) 0 [] 0 0 [] (B:Int) pre.length (lvCells pre)=some [.v (.bool true)]) ?_ N 13 (by omega)) B [] hB1 (by omega) (by omega) (by simp) eZ.symm
 intro k r ih w pre hw1 hw2 hkw hpk hpre
 have g0:((T:Int)>0)=True:=eq_true (by omega)
 simp only [condO_dec,g0,if_true]
 have fin:∀ L:List (Option Nat),L=rowF zs w T 0->L.length≠2->∃ k',k=k' + 1/\w<T/\refF zs k w=L::refF zs k' (2*w):=by
  intro L hL h2
  have hwn:w<T:=by
   rcases Nat.lt_or_ge w T with h3 | h3
   ·exact h3
   ·exact absurd (by rw [hL,hT];exact rowF_one (by omega) (by omega)) h2
  cases k with
  | zero=>simp at hkw;omega
  | succ k=>exact ⟨k,rfl,hwn,by rw [refF,←hT,←hL,if_neg h2]⟩
 have fin1:∀ L:List (Option Nat),L=rowF zs w T 0->L.length=2->refF zs k w=[L]:=by
  intro L hL h2
  cases k with
  | zero=>rw [refF,←hT,←hL]
  | succ k=>rw [refF,←hT,←hL,if_pos h2]
 refine loopC_rule (fun k2 (r2:Int->Int->Int->Nat->List AV->Nat->List AV->Int->Nat->List AV->Nat->List AV->Nat->List AV->Int->Nat->List AV->Nat->List AV->Nat->List AV->Int->Nat->List AV->Int->Nat->List AV->Nat->List AV->Option (List RLeaf))=>
  ∀ (p c:Nat) (acc:List (Option Nat)),T<=p+k2->p<=T+w->acc.length=2*c->c<=p->acc++rowF zs w k2 p=rowF zs w T 0->
   r2 (w:Int) (p:Int) (B:Int) m ls 0 [] (B:Int) W.length (lvCells W) 0 [] 0 [] 0 0 [] T (flosL zs) 0 [] 0 0 [] (B:Int) pre.length (lvCells pre) c (flosL acc)=some [.v (.bool true)]) ?_ N T (by omega) 0 0 [] (by omega) (by omega) rfl (by omega) rfl
 intro k2 r2 ih2 p c acc hpk2 hpn hac hcp hrow
 by_cases hp:p<T
 ·obtain ⟨k2,rfl⟩:∃ k',k2=k' + 1:=⟨k2-1,by omega⟩
  rw [rowF,if_pos (by omega)] at hrow
  have wp:IntKind.i64.wrap ((p:Int)+(w:Int))=((p+w:Nat):Int):=by rw [wrap64]<;>omega
  have em:(if (T:Int)<((p+w:Nat):Int) then (T:Int) else ((p+w:Nat):Int))=((min (p+w) T:Nat):Int):=by split<;>omega
  have hcut:=flos_cut hFz (i:=p) (m:=min (p+w) T-p) (by omega)
  have hcol:fO (((flosL zs).drop p).take (min (p+w) T-p))=cutW zs w p:=by rw [hcut.2,flosOf_L,cutW,hT]
  simp only [condO_dec,Int.ofNat_lt,hp,if_true]
  simp only [wp,em,Int.toNat_natCast,Nat.mul_one,hcl,hcut.1,hcol,nl70,put_pairN,←flosL_app,Int.natCast_nonneg,true_and,if_true]
  rw [if_pos ⟨by omega,by omega⟩,if_pos (by omega),if_pos (by omega)]
  exact ih2 k2 (by omega) (p+w) (c+1) _ (by omega) (by omega) (by simp [hac];omega) (by omega) (by rw [←hrow,List.append_assoc])
 ·have e0:rowF zs w k2 p=[]:=by
   cases k2 with
   | zero=>rfl
   | succ k2=>rw [rowF,if_neg (by omega)]
  rw [e0,List.append_nil] at hrow
  have hacd:acc.length / 2=c:=by omega
  have ep:lvCells pre++[AV.list c (flosL acc)]=lvCells (pre++[acc]):=by simp [lvCells,hacd]
  have g5:((pre.length+1)*25<=549755813888)=True:=eq_true (by omega)
  simp only [condO_dec,Int.ofNat_lt,hp,if_false,g5,if_true,nl71,put_lev,ep,condO_beq]
  by_cases hc1:c=1
  ·have hZ:pre++[acc]=W':=by rw [←hpre,fin1 acc hrow (by omega)]
   have dZ:=done _ hZ
   have el:(pre++[acc]).length=pre.length+1:=by simp
   have hLZ:Lvs (pre.length+1) (lvCells (pre++[acc])):=by rw [←el,hZ];exact hLM
   rw [el] at dZ
   have g1:(Lvs W.length (lvCells W)/\Lvs (pre.length+1) (lvCells (pre++[acc])))=True:=eq_true ⟨hLL,hLZ⟩
   have c1:((c:Int)=1)=True:=eq_true (by omega)
   simp only [c1,gF,if_true,flosOf_L,hSF,condO_tx,hLL,hLZ,and_self,dZ]
  ·obtain ⟨k',rfl,hwn,e3⟩:=fin acc hrow (by omega)
   have w2:IntKind.i64.wrap (2*(w:Int))=((2*w:Nat):Int):=by rw [wrap64]<;>omega
   have hk2w:T<=2*w*2 ^ k':=by
    rw [Nat.pow_succ,Nat.mul_comm (2 ^ k') 2,←Nat.mul_assoc,Nat.mul_comm w 2] at hkw;exact hkw
   rw [if_neg (show ¬ (c:Int)=1 by omega),w2]
   have:=ih k' (by omega) (2*w) (pre++[acc]) (by omega) (by omega) hk2w (by simp;omega) (by rw [←hpre,e3];simp)
   simpa using this
end Go.Abs
end
