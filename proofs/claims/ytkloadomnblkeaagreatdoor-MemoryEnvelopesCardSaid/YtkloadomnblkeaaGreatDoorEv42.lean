/- Part 42 of the library that the proof of the statement uses: an abstract run of the program, proved right, and what its functions give. -/
import Derived.Test.YtkloadomnblkeaaGreatDoorEv14
import Derived.Test.YtkloadomnblkeaaGreatDoorEv41
set_option linter.unusedVariables false
set_option linter.unusedSimpArgs false

noncomputable section
namespace Go.Abs
open Go.Proofs Classical Go.Abs.Fin
theorem own_tree {n:Nat} {xs:List (Option Nat)} {A:Nat} (hn:xs.length=n) (hs:sampErr n xs=0) (h1:1<=A) (h2:A<=256):chkT n xs (A:Int) (levelsF xs A).length (lvCells (levelsF xs A))=0:=by
 obtain ⟨hn4,hf⟩:=samp_all hs
 have hsame:=levels_same (xs:=xs) (b:=A) (by omega) (by omega) hf
 unfold chkT
 rw [if_pos hs,if_neg (by omega),Int.toNat_natCast]
 rw [←treeErr_congr hsame]
 unfold treeErr
 have e1:lensEq (levelsF xs A) (levelsF xs A).length (lvCells (levelsF xs A))=true:=all_range.2 fun i hi=>by
  rw [lvAt_cells hi];exact decide_eq_true rfl
 have e2:finsL (levelsF xs A).length (lvCells (levelsF xs A))=true:=all_range.2 fun i hi=>by
  rw [lvAt_cells hi];exact finR_iff.2 (SameLv.at i hsame hi).finL
 have e3:sameK (levelsF xs A) (levelsF xs A).length (lvCells (levelsF xs A))=true:=all_range.2 fun i hi=>by
  rw [lvAt_cells hi];exact all_range.2 fun j hj=>decide_eq_true rfl
 rw [if_pos rfl,if_pos e1,if_pos e2,if_pos e3]
theorem zoomR_get {xs:List (Option Nat)} {ls:List AV} {b n:Int} {F M C:Nat}:∀ (k j q:Nat),q<k->
  (zoomR xs ls b n F M C k j).getD (2*q) none=(extP xs ls b n ((F+(j+q)*M / C:Nat):Int) ((F+(j+q+1)*M / C:Nat):Int)).1/\
  (zoomR xs ls b n F M C k j).getD (2*q+1) none=(extP xs ls b n ((F+(j+q)*M / C:Nat):Int) ((F+(j+q+1)*M / C:Nat):Int)).2
 | 0,j,q,h=>by omega
 | k+1,j,0,h=>⟨rfl,rfl⟩
 | k+1,j,q+1,h=>by
  have:=zoomR_get (xs:=xs) (ls:=ls) (b:=b) (n:=n) (F:=F) (M:=M) (C:=C) k (j+1) q (by omega)
  rw [show j+1+q=j+(q+1) by omega] at this
  rw [zoomR,show 2*(q+1)=2*q+2 by omega,show 2*q+2+1=(2*q+1)+2 by omega]
  exact this
theorem col_has {F M C:Nat} (hC:1<=C):∀ (c k:Nat),F<=k->k<F+c*M / C->∃ q,q<c/\F+q*M / C<=k/\k<F+(q+1)*M / C
 | 0,k,h1,h2=>by rw [Nat.zero_mul,Nat.zero_div] at h2;omega
 | c+1,k,h1,h2=>by
  by_cases h:k<F+c*M / C
  ·obtain ⟨q,q1,q2,q3⟩:=col_has hC c k h1 h
   exact ⟨q,by omega,q2,q3⟩
  ·exact ⟨c,by omega,by omega,h2⟩
theorem run_11' {n N:Nat} {cs:List AV} {b f t c:Int} {o:Option Nat} (h:Flos n cs) (hN:n+5020<N):
  (fsM mzS waysQ N 12).call (List RLeaf) 11 [.s (.agg [.b (.list n cs),.b (.int .i64 b)]),.s (.agg [.b (.int .i64 f),.b (.int .i64 t),.b (.int .i64 c),.b (.flo .f32 o)])] [] (resK [false])=some [.v (.bool true)]:=by
 rw [run_11]
 have hxl:=h.len
 have hcl:=h.2.2
 simp only [shut_eq,guardO_dec,h,if_true,true_and]
 cases hfew:fewB n (fO cs) b with
 | false=>rfl
 | true=>
 have hf':=of_decide_eq_true hfew
 obtain ⟨hn64,hs,hb1,hb2⟩:=hf'
 by_cases hr:(if f<0\/f>(n:Int)\/t<0\/t>(n:Int) then (3:Int) else if t<f then 11 else 0)=0
 case neg=>
  have:((if f<0\/f>(n:Int)\/t<0\/t>(n:Int) then (3:Int) else if t<f then 11 else 0) != 0)=true:=bne_iff_ne.2 hr
  rw [this];rfl
 by_cases hc:(if c<1\/c>2048 then (3:Int) else 0)=0
 case neg=>
  have:((if c<1\/c>2048 then (3:Int) else 0) != 0)=true:=bne_iff_ne.2 hc
  rw [this,hr];rfl
 rw [hr,hc]
 have hrange:0<=f/\f<=t/\t<=n:=by
  repeat' (split at hr)
  all_goals omega
 have hcc:1<=c/\c<=2048:=by
  split at hc
  ·cases hc
  ·omega
 obtain ⟨A,rfl⟩:=Int.eq_ofNat_of_zero_le (show 0<=b by omega)
 obtain ⟨F,rfl⟩:=Int.eq_ofNat_of_zero_le (show 0<=f by omega)
 obtain ⟨T,rfl⟩:=Int.eq_ofNat_of_zero_le (show 0<=t by omega)
 obtain ⟨C,rfl⟩:=Int.eq_ofNat_of_zero_le (show 0<=c by omega)
 have e1:buildE n (fO cs) (A:Int)=0:=by unfold buildE;rw [if_pos hs,if_neg (by omega)]
 have e2:buildV n (fO cs) (A:Int)=((A:Int),levelsF (fO cs) A):=by unfold buildV;rw [if_pos e1,Int.toNat_natCast]
 obtain ⟨hn4,hfin⟩:=samp_all hs
 have hsame:=levels_same (xs:=fO cs) (b:=A) (by omega) (by omega) hfin
 have hLv:=hsame.lvsL (by rw [hsame.len];have:=refLv_len (fO cs) A;omega)
 have hchk:=own_tree hxl hs (A:=A) (by omega) (by omega)
 simp only [e1,e2,hLv,show (n<=100000000)=True from eq_true (by omega),and_self,if_true]
 generalize levelsF (fO cs) A=W at hchk hLv
 clear e1 e2 hsame
 generalize W.length=m at hchk hLv ⊢
 generalize lvCells W=ls at hchk hLv ⊢
 have hrng:rngE n (fO cs) (A:Int) m ls (F:Int) (T:Int)=0:=by
  unfold rngE;rw [if_pos hchk,if_neg (by omega),if_neg (by omega),if_neg (by omega)]
 obtain ⟨A',hA',hT⟩:=tree_ok hxl hchk
 obtain rfl:A=A':=by omega
 have wm:IntKind.i64.wrap ((T:Int)-(F:Int))=((T-F:Nat):Int):=by rw [wrap64]<;>omega
 have b0:(!true)=false:=rfl
 have z00:((0:Int) != 0)=false:=rfl
 simp only [wm,b0,z00,condO_fx,bindO_ok,condO_ts,Bool.or_self]
 by_cases hcm:((T-F:Nat):Int)<(C:Int)
 ·have d1:decide (((T-F:Nat):Int)<(C:Int))=true:=decide_eq_true hcm
  have z1:zoomE n (fO cs) (A:Int) m ls (F:Int) (T:Int) (C:Int)=16:=by unfold zoomE;rw [if_pos hrng,if_neg (by omega),if_pos (by omega)]
  have z2:ext35E n (fO cs) (A:Int) m ls (F:Int) (T:Int)=if (F:Int)=(T:Int) then 12 else 0:=by unfold ext35E;rw [if_pos hrng]
  rw [d1,condO_tx,z1,z2]
  by_cases hft:F=T
  ·have q1:decide (((T-F:Nat):Int)>0)=false:=decide_eq_false (by omega)
   rw [if_pos (by omega),q1];rfl
  ·have q1:decide (((T-F:Nat):Int)>0)=true:=decide_eq_true (by omega)
   rw [if_neg (by omega),q1];rfl
 have d1:decide (((T-F:Nat):Int)<(C:Int))=false:=decide_eq_false hcm
 have hsub:((T:Int)-(F:Int)).toNat=T-F:=by omega
 have z1:zoomE n (fO cs) (A:Int) m ls (F:Int) (T:Int) (C:Int)=0:=by unfold zoomE;rw [if_pos hrng,if_neg (by omega),if_neg (by omega)]
 have z2:ext35E n (fO cs) (A:Int) m ls (F:Int) (T:Int)=0:=by unfold ext35E;rw [if_pos hrng,if_neg (by omega)]
 have z3:zoomV n (fO cs) (A:Int) m ls (F:Int) (T:Int) (C:Int)=zoomR (fO cs) ls A n F (T-F) C C 0:=by unfold zoomV;rw [if_pos z1,hsub,Int.toNat_natCast,Int.toNat_natCast]
 have z4:ext35V n (fO cs) (A:Int) m ls (F:Int) (T:Int)=extP (fO cs) ls A n F T:=by unfold ext35V;rw [if_pos z2]
 have hM:∃ M,M=T-F:=⟨_,rfl⟩
 obtain ⟨M,hM⟩:=hM
 rw [←hM] at z3 wm d1 hcm ⊢
 have hC1:1<=C:=by omega
 have hCM:C<=M:=by omega
 have hTM:T=F+M:=by omega
 have hZ:∀ q,q<C->Std (keyAt (fO cs)) ((zoomR (fO cs) ls A n F M C C 0).getD (2*q) none) ((zoomR (fO cs) ls A n F M C C 0).getD (2*q+1) none) (F+q*M / C) (F+(q+1)*M / C):=by
  intro q hq
  obtain ⟨g1,g2⟩:=zoomR_get (xs:=fO cs) (ls:=ls) (b:=(A:Int)) (n:=(n:Int)) (F:=F) (M:=M) (C:=C) C 0 q hq
  rw [Nat.zero_add] at g1 g2
  rw [g1,g2]
  have h1:=col_lt (j:=q) hC1 hCM
  have h2:=col_le (M:=M) (j:=q+1) hC1 (by omega)
  have:=extP_ok hT (f:=F+q*M / C) (t:=F+(q+1)*M / C) (by omega) (by omega)
  rwa [hxl] at this
 have hE:Std (keyAt (fO cs)) (extP (fO cs) ls A n F T).1 (extP (fO cs) ls A n F T).2 F T:=by
  have:=extP_ok hT (f:=F) (t:=T) (by omega) (by omega)
  rwa [hxl] at this
 have hzl:=zoomR_len (fO cs) ls A n F M C C 0
 have w0:IntKind.i64.wrap (IntKind.i64.wrap (0+0)+0)=0:=rfl
 have hz2:(zoomR (fO cs) ls A n F M C C 0).length / 2=C:=by omega
 have nzC:((C:Int)≠0)=True:=eq_true (by omega)
 have bC:((C:Int) != (C:Int))=false:=by rw [bne_self_eq_false]
 simp only [d1,condO_fx,z1,z2,z3,z4,w0,z00,hz2,bC,bindO_ok]
 have hgz:∀ i,i<2*C->asFloat .f32 ((flosL (zoomR (fO cs) ls A n F M C C 0)).getD i .top)=some ((zoomR (fO cs) ls A n F M C C 0).getD i none):=fun i hi=>flosL_get (by omega)
 have hzc:(flosL (zoomR (fO cs) ls A n F M C C 0)).length=2*C:=by rw [flosL_len];omega
 generalize zoomR (fO cs) ls A n F M C C 0=Z at hZ hgz hzc
 generalize extP (fO cs) ls A n F T=e at hE
 clear hrng hchk z1 z2 z3 z4 hzl hz2 hfew hs hr hc d1 hcm
 obtain ⟨e1,e2,⟨k1,k1a,k1b,k1c⟩,⟨k2,k2a,k2b,k2c⟩,e5⟩:=hE
 have hCle:C*M / C=M:=Nat.mul_div_cancel_left _ (by omega)
 have hwrap:∀ j,j<=C->IntKind.i64.wrap ((F:Int)+IntKind.i64.wrap ((IntKind.i64.wrap ((j:Int)*(M:Int))).tdiv (C:Int)))=((F+j*M / C:Nat):Int):=fun j hj=>col_wrap hC1 hj (by omega) (by omega) (by omega)
 have hlt:∀ j,F+j*M / C<F+(j+1)*M / C:=fun j=>by have:=col_lt (j:=j) hC1 hCM;omega
 have hle:∀ j,j<=C->F+j*M / C<=T:=fun j hj=>by have:=col_le (M:=M) (j:=j) hC1 hj;omega
 have hge:∀ j,F<=F+j*M / C:=fun j=>Nat.le_add_right _ _
 have hhas:∀ k,F<=k->k<T->∃ q,q<C/\F+q*M / C<=k/\k<F+(q+1)*M / C:=fun k h1 h2=>col_has hC1 C k h1 (by rw [hCle];omega)
 have ha0:F+0*M / C=F:=by rw [Nat.zero_mul,Nat.zero_div];rfl
 have haC:F+C*M / C=T:=by rw [hCle];omega
 obtain ⟨a,ha⟩:∃ a:Nat->Nat,∀ j,F+j*M / C=a j:=⟨_,fun _=>rfl⟩
 simp only [ha] at hZ hwrap hlt hle hge hhas ha0 haC
 clear ha hCle
 have zlow:∀ q,q<C->fkey e.1<=fkey (Z.getD (2*q) none)/\fkey (Z.getD (2*q+1) none)<=fkey e.2:=by
  intro q hq
  obtain ⟨_,_,⟨p1,p1a,p1b,p1c⟩,⟨p2,p2a,p2b,p2c⟩,_⟩:=hZ q hq
  have h1:=hge q
  have h2:=hle (q+1) (by omega)
  have r1:=e5 p1 (by omega) (by omega)
  have r2:=e5 p2 (by omega) (by omega)
  omega
 have inc0:∀ k,F<=k->k<T->k<n:=fun k h1 h2=>by omega
 simp only [Bool.or_self,condO_fx]
 refine loopC_rule (fun k (r:Nat->List AV->Int->Int->Nat->List AV->Int->Int->Nat->List AV->Int->Int->Int->Int->Option Nat->Nat->List AV->Int->Nat->List AV->Option Nat->Option Nat->Option (List RLeaf))=>∀ (j:Nat) (x3:Int),x3=((a j:Nat):Int)->j+k=C->
  r C (flosL Z) (M:Int) x3 C (flosL Z) (C:Int) (j:Int) n cs (A:Int) (F:Int) (T:Int) (C:Int) o 0 [] (A:Int) m ls e.1 e.2=some [.v (.bool true)]) ?_ N C (by omega) 0 _ (by rw [ha0]) (by omega)
 intro k r ih j x3 hx3 hj
 subst hx3
 by_cases hk:j<C
 ·obtain ⟨z1,z2,z3,z4,z5⟩:=hZ j hk
  obtain ⟨y1,y2⟩:=zlow j hk
  have l1:=hlt j
  have l2:=hle (j+1) (by omega)
  have l3:=hge j
  have wj:IntKind.i64.wrap ((j:Int)+1)=((j+1:Nat):Int):=by rw [wrap64]<;>omega
  have wb:=hwrap (j+1) (by omega)
  have q0:(0<(flosL Z).length)=True:=eq_true (by omega)
  have q3:(2*j+2<=(flosL Z).length)=True:=eq_true (by omega)
  have hcm:j*2=2*j:=by omega
  simp only [condO_dec,guardO_dec,Int.ofNat_lt,hk,if_true,Int.natCast_nonneg,true_and,and_true,Int.toNat_natCast,hcm,q0,q3,hgz (2*j) (by omega),hgz (2*j+1) (by omega),bindO_ok,nzC,wj,wb]
  refine loopC_rule (fun k2 (r2:Nat->List AV->Int->Int->Int->Bool->Bool->Nat->List AV->Int->Int->Nat->List AV->Int->Int->Int->Int->Option Nat->Nat->List AV->Int->Nat->List AV->Option Nat->Option Nat->Option Nat->Option Nat->Option (List RLeaf))=>∀ (i:Nat) (lo hi:Bool),i+k2=a (j+1)->a j<=i->(lo=true\/∃ p,i<=p/\p<a (j+1)/\keyAt (fO cs) p=fkey (Z.getD (2*j) none))->(hi=true\/∃ p,i<=p/\p<a (j+1)/\keyAt (fO cs) p=fkey (Z.getD (2*j+1) none))->
   r2 C (flosL Z) (M:Int) (i:Int) ((a (j+1):Nat):Int) lo hi C (flosL Z) (C:Int) (j:Int) n cs (A:Int) (F:Int) (T:Int) (C:Int) o 0 [] (A:Int) m ls e.1 e.2 (Z.getD (2*j) none) (Z.getD (2*j+1) none)=some [.v (.bool true)]) ?_ N (a (j+1)-a j) (by omega) (a j) false false (by omega) (Nat.le_refl _) (.inr z3) (.inr z4)
  intro k2 r2 ih2 i lo hi hi2 hai hlo hhi
  by_cases hk2:i<a (j+1)
  ·have hin:i<n:=by omega
   have hc0:0<cs.length:=by omega
   have hfi:=hfin _ (show (fO cs).getD i none∈fO cs by rw [List.getD_eq_getElem?_getD,List.getElem?_eq_getElem (by omega)];exact List.getElem_mem _)
   have wi:IntKind.i64.wrap ((i:Int)+1)=((i+1:Nat):Int):=by rw [wrap64]<;>omega
   obtain ⟨s1,s2⟩:=z5 i hai hk2
   have c1:(ordO .f32 ((fO cs).getD i none) (Z.getD (2*j) none)==some .lt)=false:=by rw [blt hfi z1];exact decide_eq_false (by unfold keyAt at s1;omega)
   have c2:(ordO .f32 ((fO cs).getD i none) (Z.getD (2*j+1) none)==some .gt)=false:=by rw [bgt hfi z2];exact decide_eq_false (by unfold keyAt at s2;omega)
   simp only [condO_dec,guardO_dec,Int.ofNat_lt,hk2,hin,hc0,if_true,Int.natCast_nonneg,true_and,and_true,Int.toNat_natCast,Nat.mul_one,h.get hin,bindO_ok,c1,c2,condO_ts,Bool.or_self,condO_fx,wi,beqk hfi z1,beqk hfi z2]
   have nlo:∀ (x:Option Nat) (l:Bool),(l=true\/∃ p,i<=p/\p<a (j+1)/\keyAt (fO cs) p=fkey x)->(l=true\/∃ p,i+1<=p/\p<a (j+1)/\keyAt (fO cs) p=fkey x)\/keyAt (fO cs) i=fkey x:=by
    intro x l hx
    rcases hx with hx | ⟨p,p1,p2,p3⟩
    ·exact .inl (.inl hx)
    ·by_cases hpi:p=i
     ·subst hpi;exact .inr p3
     ·exact .inl (.inr ⟨p,by omega,p2,p3⟩)
   have n1:=nlo _ _ hlo
   have n2:=nlo _ _ hhi
   have n1':lo=false->(decide (fkey ((fO cs).getD i none)=fkey (Z.getD (2*j) none))=true\/∃ p,i+1<=p/\p<a (j+1)/\keyAt (fO cs) p=fkey (Z.getD (2*j) none)):=by
    intro e
    rcases n1 with (n1 | n1) | n1
    ·rw [e] at n1;cases n1
    ·exact .inr n1
    ·exact .inl (decide_eq_true n1)
   have n2':hi=false->(decide (fkey ((fO cs).getD i none)=fkey (Z.getD (2*j+1) none))=true\/∃ p,i+1<=p/\p<a (j+1)/\keyAt (fO cs) p=fkey (Z.getD (2*j+1) none)):=by
    intro e
    rcases n2 with (n2 | n2) | n2
    ·rw [e] at n2;cases n2
    ·exact .inr n2
    ·exact .inl (decide_eq_true n2)
   cases lo<;>cases hi
   ·exact ih2 (k2-1) (by omega) (i+1) _ _ (by omega) (by omega) (n1' rfl) (n2' rfl)
   ·exact ih2 (k2-1) (by omega) (i+1) _ _ (by omega) (by omega) (n1' rfl) (.inl rfl)
   ·exact ih2 (k2-1) (by omega) (i+1) _ _ (by omega) (by omega) (.inl rfl) (n2' rfl)
   ·exact ih2 (k2-1) (by omega) (i+1) _ _ (by omega) (by omega) (.inl rfl) (.inl rfl)
  ·have:i=a (j+1):=by omega
   subst this
   have hlo':lo=true:=by
    rcases hlo with hlo | ⟨p,p1,p2,_⟩
    ·exact hlo
    ·omega
   have hhi':hi=true:=by
    rcases hhi with hhi | ⟨p,p1,p2,_⟩
    ·exact hhi
    ·omega
   subst hlo' hhi'
   have c1:(ordO .f32 (Z.getD (2*j) none) e.1==some .lt)=false:=by rw [blt z1 e1];exact decide_eq_false (by omega)
   have c2:(ordO .f32 (Z.getD (2*j+1) none) e.2==some .gt)=false:=by rw [bgt z2 e2];exact decide_eq_false (by omega)
   simp only [condO_dec,Int.ofNat_lt,hk2,if_false,Bool.not_true,condO_ts,condO_fx,bindO_ok,c1,c2,Bool.or_self,Bool.or_false,wj]
   exact ih (k-1) (by omega) (j+1) _ rfl (by omega)
 have hjC:j=C:=by omega
 subst hjC
 simp only [condO_dec,Int.ofNat_lt,hk,if_false]
 have x1:∃ p,0<=p/\p<j/\fkey (Z.getD (2*p) none)=fkey e.1:=by
  obtain ⟨q,q1,q2,q3⟩:=hhas k1 k1a k1b
  have:=(hZ q q1).2.2.2.2 k1 q2 q3
  have:=zlow q q1
  exact ⟨q,by omega,q1,by omega⟩
 have x2:∃ p,0<=p/\p<j/\fkey (Z.getD (2*p+1) none)=fkey e.2:=by
  obtain ⟨q,q1,q2,q3⟩:=hhas k2 k2a k2b
  have:=(hZ q q1).2.2.2.2 k2 q2 q3
  have:=zlow q q1
  exact ⟨q,by omega,q1,by omega⟩
 clear ih
 refine loopC_rule (fun k3 (r3:Int->Bool->Bool->Nat->List AV->Int->Int->Nat->List AV->Int->Int->Int->Int->Option Nat->Nat->List AV->Int->Nat->List AV->Option Nat->Option Nat->Option (List RLeaf))=>∀ (q:Nat) (lo hi:Bool),q+k3=j->(lo=true\/∃ p,q<=p/\p<j/\fkey (Z.getD (2*p) none)=fkey e.1)->(hi=true\/∃ p,q<=p/\p<j/\fkey (Z.getD (2*p+1) none)=fkey e.2)->
  r3 ((a j:Nat):Int) lo hi j (flosL Z) (j:Int) (q:Int) n cs (A:Int) (F:Int) (T:Int) (j:Int) o 0 [] (A:Int) m ls e.1 e.2=some [.v (.bool true)]) ?_ N j (by omega) 0 false false (by omega) (.inr x1) (.inr x2)
 intro k3 r3 ih3 q lo hi hq hlo hhi
 by_cases hk3:q<j
 ·obtain ⟨z1,z2,_⟩:=hZ q hk3
  have wq:IntKind.i64.wrap ((q:Int)+1)=((q+1:Nat):Int):=by rw [wrap64]<;>omega
  have q0:(0<(flosL Z).length)=True:=eq_true (by omega)
  have q3:(2*q+2<=(flosL Z).length)=True:=eq_true (by omega)
  have hcm:q*2=2*q:=by omega
  simp only [condO_dec,guardO_dec,Int.ofNat_lt,hk3,if_true,Int.natCast_nonneg,true_and,and_true,Int.toNat_natCast,hcm,q0,q3,hgz (2*q) (by omega),hgz (2*q+1) (by omega),bindO_ok,wq,beqk z1 e1,beqk z2 e2]
  have n1':lo=false->(decide (fkey (Z.getD (2*q) none)=fkey e.1)=true\/∃ p,q+1<=p/\p<j/\fkey (Z.getD (2*p) none)=fkey e.1):=by
   intro e0
   rcases hlo with hlo | ⟨p,p1,p2,p3⟩
   ·rw [e0] at hlo;cases hlo
   ·by_cases hpq:p=q
    ·subst hpq;exact .inl (decide_eq_true p3)
    ·exact .inr ⟨p,by omega,p2,p3⟩
  have n2':hi=false->(decide (fkey (Z.getD (2*q+1) none)=fkey e.2)=true\/∃ p,q+1<=p/\p<j/\fkey (Z.getD (2*p+1) none)=fkey e.2):=by
   intro e0
   rcases hhi with hhi | ⟨p,p1,p2,p3⟩
   ·rw [e0] at hhi;cases hhi
   ·by_cases hpq:p=q
    ·subst hpq;exact .inl (decide_eq_true p3)
    ·exact .inr ⟨p,by omega,p2,p3⟩
  cases lo<;>cases hi
  ·exact ih3 (k3-1) (by omega) (q+1) _ _ (by omega) (n1' rfl) (n2' rfl)
  ·exact ih3 (k3-1) (by omega) (q+1) _ _ (by omega) (n1' rfl) (.inl rfl)
  ·exact ih3 (k3-1) (by omega) (q+1) _ _ (by omega) (.inl rfl) (n2' rfl)
  ·exact ih3 (k3-1) (by omega) (q+1) _ _ (by omega) (.inl rfl) (.inl rfl)
 ·have hlo':lo=true:=by
   rcases hlo with hlo | ⟨p,p1,p2,_⟩
   ·exact hlo
   ·omega
  have hhi':hi=true:=by
   rcases hhi with hhi | ⟨p,p1,p2,_⟩
   ·exact hhi
   ·omega
  subst hlo' hhi'
  have q4:((a j:Int)==(T:Int))=true:=by rw [haC];exact beq_self_eq_true _
  simp only [condO_dec,Int.ofNat_lt,hk3,if_false,q4,condO_tx,bindO_ok]
  rfl
end Go.Abs
end
