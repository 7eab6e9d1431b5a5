/- Part 38 of the library that the proof of the statement uses: an abstract run of the program, proved right, and what its functions give. -/
import Derived.Test.YtkloadomnblkeaaGreatDoorRg20
import Derived.Test.YtkloadomnblkeaaGreatDoorRg33
import Derived.Test.YtkloadomnblkeaaGreatDoorRg37
set_option linter.unusedVariables false
set_option linter.unusedSimpArgs false

noncomputable section
namespace Go.Abs
open Go.Proofs Classical Go.Abs.Fin
theorem zoomV_len (n:Nat) (xs:List (Option Nat)) (b:Int) (m:Nat) (ls:List AV) (f t c:Int):(zoomV n xs b m ls f t c).length%2=0/\(zoomV n xs b m ls f t c).length<=4096:=by
 unfold zoomV
 split
 ·rename_i h
  rw [zoomR_len]
  unfold zoomE at h
  repeat' (split at h)
  all_goals omega
 ·simp
theorem cut_std2 {xs:List (Option Nat)} {F T:Nat} (hF:F<T) (hT:T<=xs.length) (hf:FinL xs):
  Std (keyAt xs) (extV .lt (((xs.drop F).take (T-F)).getD 0 none) ((xs.drop F).take (T-F))) (extV .gt (((xs.drop F).take (T-F)).getD 0 none) ((xs.drop F).take (T-F))) F T:=by
 have:=cut_std (w:=T-F) (p:=F) (by omega) (show F<xs.length by omega) hf
 unfold cutW at this
 rw [show min (F+(T-F)) xs.length=T by omega] at this
 exact this
theorem std_same {f:Nat->Int} {a b c d:Option Nat} {lo hi:Nat} (h:Std f a b lo hi) (h':Std f c d lo hi):(ordO .f32 a c==some .eq)=true/\(ordO .f32 b d==some .eq)=true:=by
 obtain ⟨k1,k2⟩:=h.keys h'
 rw [beqk h.1 h'.1,beqk h.2.1 h'.2.1,k1,k2]
 exact ⟨decide_eq_true rfl,decide_eq_true rfl⟩
theorem sameF_of {L M:List (Option Nat)} (hl:L.length=M.length) (h:∀ i,i<L.length->(ordO .f32 (L.getD i none) (M.getD i none)==some .eq)=true):sameF L M=true:=by
 unfold sameF
 rw [beq_iff_eq.2 hl,Bool.true_and]
 exact all_range.2 h
theorem sameF_nn:sameF [] []=true:=rfl
theorem sameF_cons2 {a b c d:Option Nat} {L M:List (Option Nat)} (h1:(ordO .f32 a c==some .eq)=true) (h2:(ordO .f32 b d==some .eq)=true) (h:sameF L M=true):sameF ([a,b]++L) ([c,d]++M)=true:=by
 unfold sameF at h
 rw [Bool.and_eq_true,beq_iff_eq] at h
 refine sameF_of (by simp [h.1]) fun i hi=>?_
 match i with
 | 0=>exact h1
 | 1=>exact h2
 | i+2=>exact all_range.1 h.2 i (by simpa using hi)
theorem zoom_same {xs:List (Option Nat)} {A m F M C:Nat} {ls:List AV} (hT:TreeOk xs A m ls) (hC:1<=C) (hCM:C<=M) (hFM:F+M<=xs.length):∀ (k j:Nat),j+k<=C->sameF (zoomR xs ls A xs.length F M C k j) (zoomF xs F M C k j)=true
 | 0,j,_=>rfl
 | k+1,j,hj=>by
  have h1:=col_lt (j:=j) hC hCM
  have h2:=col_le (M:=M) (j:=j+1) hC (by omega)
  obtain ⟨s1,s2⟩:=std_same (extP_ok hT (f:=F+j*M / C) (t:=F+(j+1)*M / C) (by omega) (by omega)) (cut_std2 (xs:=xs) (F:=F+j*M / C) (T:=F+(j+1)*M / C) (by omega) (by omega) hT.fin)
  rw [zoomR,zoomF]
  exact sameF_cons2 s1 s2 (zoom_same hT hC hCM hFM k (j+1) (by omega))
theorem run_5' {n m N:Nat} {cs ls:List AV} {b f t c:Int} {o:Option Nat} (h:Flos n cs) (hw:LvsW m ls):
  (fsM mzR waysQ N 12).call (List RLeaf) 5 [.ofB (.list n cs),.s (.agg [.b (.int .i64 b),.b (.list m ls)]),.s (.agg [.b (.int .i64 f),.b (.int .i64 t),.b (.int .i64 c),.b (.flo .f32 o)])] [] (resK [false])=some [.v (.bool true)]:=by
 rw [run_5]
 simp only [shut_eq,guardO_dec,hw,h,if_true,true_and]
 cases hlb:lenB (n:Int) 64 4096 with
 | false=>rfl
 | true=>
 cases hsh:shortT m ls with
 | false=>rfl
 | true=>
 have hL:=hw.short hsh
 have hn:(n<=100000000)=True:=by
  unfold lenB at hlb
  have w:IntKind.i64.wrap (4096+2)=4098:=rfl
  rw [decide_eq_true_eq,w] at hlb
  exact eq_true (by omega)
 have hzl:=zoomV_len n (fO cs) b m ls f t c
 have fp0:FPrs 0 []:=⟨by omega,⟨by omega,rfl,rfl⟩⟩
 have gz1:Flos (2*((zoomV n (fO cs) b m ls f t c).length / 2)) (flosL (zoomV n (fO cs) b m ls f t c)):=by
  rw [show 2*((zoomV n (fO cs) b m ls f t c).length / 2)=(zoomV n (fO cs) b m ls f t c).length by omega]
  exact Flos_L (by omega)
 have gz3:((zoomV n (fO cs) b m ls f t c).length / 2<=100000)=True:=eq_true (by omega)
 have gz2:FPrs ((zoomV n (fO cs) b m ls f t c).length / 2) (flosL (zoomV n (fO cs) b m ls f t c)):=⟨by omega,gz1⟩
 have zz:(ordO .f32 (some 0) (some 0)==some .eq)=true:=by decide +kernel
 have f0:fO []=[]:=rfl
 have z0:((0:Int)==0)=true:=rfl
 simp only [Bool.not_true,condO_fx,bindO_ok,hL,hn,gz1,gz2,gz3,fp0,if_true,and_self,and_true,true_and,flosOf_L,f0]
 clear hzl gz1 gz2 gz3
 by_cases hr:rngE n (fO cs) b m ls f t=0
 case neg=>
  have e1:ext35E n (fO cs) b m ls f t=rngE n (fO cs) b m ls f t:=if_neg hr
  have e2:zoomE n (fO cs) b m ls f t c=rngE n (fO cs) b m ls f t:=if_neg hr
  have e3:cntE n (fO cs) b m ls f t o=rngE n (fO cs) b m ls f t:=if_neg hr
  have e4:ext35V n (fO cs) b m ls f t=(some 0,some 0):=by unfold ext35V;rw [e1,if_neg hr]
  have e5:zoomV n (fO cs) b m ls f t c=[]:=by unfold zoomV;rw [e2,if_neg hr]
  have e6:cntV n (fO cs) b m ls f t o=0:=by unfold cntV;rw [e3,if_neg hr]
  by_cases hc:chkT n (fO cs) b m ls=0
  ·have hrr:(if f<0\/f>(n:Int)\/t<0\/t>(n:Int) then (3:Int) else if t<f then 11 else 0)=rngE n (fO cs) b m ls f t:=by
    unfold rngE;rw [if_pos hc]
    by_cases h1:f<0\/f>(n:Int)
    ·rw [if_pos (by omega),if_pos h1]
    ·by_cases h2:t<0\/t>(n:Int)
     ·rw [if_pos (by omega),if_neg h1,if_pos h2]
     ·rw [if_neg (by omega),if_neg h1,if_neg h2]
   have hrf:(rngE n (fO cs) b m ls f t==0)=false:=beq_eq_false_iff_ne.2 hr
   simp only [hc,z0,condO_tx,hrr,hrf,condO_fx,e1,e2,e3,e4,e5,e6,zz,Bool.and_true,Bool.true_and,bindO_ok,sameF_nn,beq_self_eq_true,Int.natCast_zero,Bool.and_self]
   try rfl
  ·have hcf:(chkT n (fO cs) b m ls==0)=false:=beq_eq_false_iff_ne.2 hc
   have er:rngE n (fO cs) b m ls f t=chkT n (fO cs) b m ls:=if_neg hc
   simp only [hcf,condO_fx,condO_tx,er,e1,e2,e3,e4,e5,e6,zz,Bool.and_true,Bool.true_and,bindO_ok,sameF_nn,beq_self_eq_true,Int.natCast_zero,Bool.and_self]
   try rfl
 have hxl:=h.len
 have hcl:=h.2.2
 have hc:chkT n (fO cs) b m ls=0:=by
  unfold rngE at hr
  split at hr
  ·assumption
  ·exact hr
 obtain ⟨A,F,T,rfl,rfl,rfl,hFT,hTn,hT⟩:=rng_zero hxl hr
 have hfew:=hT.few
 have hrr:(if (F:Int)<0\/(F:Int)>(n:Int)\/(T:Int)<0\/(T:Int)>(n:Int) then (3:Int) else if (T:Int)<(F:Int) then 11 else 0)=0:=by
  rw [if_neg (by omega),if_neg (by omega)]
 have hcut:=flos_cut h (i:=F) (m:=T-F) (by omega)
 have gg1:((0:Int)<=(F:Int)/\(F:Int)<=(T:Int)/\(T:Int)<=(n:Int))=True:=eq_true (by omega)
 have gg2:(n=cs.length)=True:=eq_true hcl.symm
 have wm:IntKind.i64.wrap ((T:Int)-(F:Int))=((T-F:Nat):Int):=by rw [wrap64]<;>omega
 have z12:((12:Int)==12)=true:=rfl
 have z3:((3:Int)==0)=false:=rfl
 have z33:((3:Int)==3)=true:=rfl
 have z16:((16:Int)==16)=true:=rfl
 have z11:((1:Int)==1)=true:=rfl
 simp only [hc,z0,condO_tx,hrr,gg1,gg2,if_true,Int.toNat_natCast,Nat.mul_one,hcut.1,hcut.2,wm,true_and]
 by_cases hlt0:F<T
 ·have hft:decide ((F:Int)<(T:Int))=true:=decide_eq_true (by omega)
  have hlt:=True.intro
  have g4:(0<T-F)=True:=eq_true (by omega)
  have e1:ext35E n (fO cs) (A:Int) m ls (F:Int) (T:Int)=0:=by unfold ext35E;rw [if_pos hr,if_neg (by omega)]
  have e4:ext35V n (fO cs) (A:Int) m ls (F:Int) (T:Int)=extP (fO cs) ls A n F T:=by unfold ext35V;rw [if_pos e1]
  obtain ⟨s1,s2⟩:=std_same (by have:=extP_ok hT hlt0 (by omega);rwa [hxl] at this) (cut_std2 hlt0 (by omega) hT.fin)
  by_cases hc1:c<1\/c>2048
  ·have hcc:(if c<1\/c>2048 then (3:Int) else 0)=3:=if_pos hc1
   have hcM:=True.intro
   have gc:=True.intro
   have sz:=True.intro
   have gzf:=True.intro
   have gzl:=True.intro
   have e2:zoomE n (fO cs) (A:Int) m ls (F:Int) (T:Int) c=3:=by unfold zoomE;rw [if_pos hr,if_pos hc1]
   have e5:zoomV n (fO cs) (A:Int) m ls (F:Int) (T:Int) c=[]:=by unfold zoomV;rw [e2];rfl
   cases ho:finB o with
   | true=>
    have e3:cntE n (fO cs) (A:Int) m ls (F:Int) (T:Int) o=0:=by unfold cntE;rw [if_pos hr,if_pos ho]
    have e6:cntV n (fO cs) (A:Int) m ls (F:Int) (T:Int) o=cntL o (((fO cs).drop F).take (T-F)):=by unfold cntV;rw [if_pos e3];rfl
    simp only [condO_tx,condO_fx,hft,hlt,g4,e1,e4,hcc,z3,z33,hcM,e2,e5,gc,Int.toNat_natCast,ho,e3,e6,zz,s1,s2,sz,z0,z12,z16,z11,Bool.and_true,Bool.true_and,bindO_ok,sameF_nn,beq_self_eq_true,Int.natCast_zero,Bool.and_self,and_self,if_true,flosOf_L,gzf,gzl,fp0,gg2]
    try rfl
   | false=>
    have e3:cntE n (fO cs) (A:Int) m ls (F:Int) (T:Int) o=1:=by unfold cntE;rw [if_pos hr,ho];rfl
    have e6:cntV n (fO cs) (A:Int) m ls (F:Int) (T:Int) o=0:=by unfold cntV;rw [e3];rfl
    simp only [condO_tx,condO_fx,hft,hlt,g4,e1,e4,hcc,z3,z33,hcM,e2,e5,gc,Int.toNat_natCast,ho,e3,e6,zz,s1,s2,sz,z0,z12,z16,z11,Bool.and_true,Bool.true_and,bindO_ok,sameF_nn,beq_self_eq_true,Int.natCast_zero,Bool.and_self,and_self,if_true,flosOf_L,gzf,gzl,fp0,gg2]
    try rfl
  have hcc:(if c<1\/c>2048 then (3:Int) else 0)=0:=if_neg hc1
  obtain ⟨C,rfl⟩:=Int.eq_ofNat_of_zero_le (show 0<=c by omega)
  by_cases hcm:((T-F:Nat):Int)<(C:Int)
  ·have hcM:decide (((T-F:Nat):Int)<(C:Int))=true:=decide_eq_true hcm
   have gc:=True.intro
   have sz:=True.intro
   have gzf:=True.intro
   have gzl:=True.intro
   have e2:zoomE n (fO cs) (A:Int) m ls (F:Int) (T:Int) (C:Int)=16:=by unfold zoomE;rw [if_pos hr,if_neg hc1,if_pos (by omega)]
   have e5:zoomV n (fO cs) (A:Int) m ls (F:Int) (T:Int) (C:Int)=[]:=by unfold zoomV;rw [e2];rfl
   cases ho:finB o with
   | true=>
    have e3:cntE n (fO cs) (A:Int) m ls (F:Int) (T:Int) o=0:=by unfold cntE;rw [if_pos hr,if_pos ho]
    have e6:cntV n (fO cs) (A:Int) m ls (F:Int) (T:Int) o=cntL o (((fO cs).drop F).take (T-F)):=by unfold cntV;rw [if_pos e3];rfl
    simp only [condO_tx,condO_fx,hft,hlt,g4,e1,e4,hcc,z3,z33,hcM,e2,e5,gc,Int.toNat_natCast,ho,e3,e6,zz,s1,s2,sz,z0,z12,z16,z11,Bool.and_true,Bool.true_and,bindO_ok,sameF_nn,beq_self_eq_true,Int.natCast_zero,Bool.and_self,and_self,if_true,flosOf_L,gzf,gzl,fp0,gg2]
    try rfl
   | false=>
    have e3:cntE n (fO cs) (A:Int) m ls (F:Int) (T:Int) o=1:=by unfold cntE;rw [if_pos hr,ho];rfl
    have e6:cntV n (fO cs) (A:Int) m ls (F:Int) (T:Int) o=0:=by unfold cntV;rw [e3];rfl
    simp only [condO_tx,condO_fx,hft,hlt,g4,e1,e4,hcc,z3,z33,hcM,e2,e5,gc,Int.toNat_natCast,ho,e3,e6,zz,s1,s2,sz,z0,z12,z16,z11,Bool.and_true,Bool.true_and,bindO_ok,sameF_nn,beq_self_eq_true,Int.natCast_zero,Bool.and_self,and_self,if_true,flosOf_L,gzf,gzl,fp0,gg2]
    try rfl
  have hcM:decide (((T-F:Nat):Int)<(C:Int))=false:=decide_eq_false hcm
  have hsub:((T:Int)-(F:Int)).toNat=T-F:=by omega
  have gc:(n<=4096/\(0:Int)<=(F:Int)/\(F:Int)<=(T:Int)/\(T:Int)<=(n:Int)/\(1:Int)<=(C:Int)/\(C:Int)<=2048/\(C:Int)<=(T:Int)-(F:Int))=True:=eq_true (by omega)
  have e2:zoomE n (fO cs) (A:Int) m ls (F:Int) (T:Int) (C:Int)=0:=by unfold zoomE;rw [if_pos hr,if_neg hc1,if_neg (by omega)]
  have e5:zoomV n (fO cs) (A:Int) m ls (F:Int) (T:Int) (C:Int)=zoomR (fO cs) ls A n F (T-F) C C 0:=by unfold zoomV;rw [if_pos e2,hsub,Int.toNat_natCast,Int.toNat_natCast]
  have sz:sameF (zoomR (fO cs) ls A n F (T-F) C C 0) (zoomF (fO cs) F (T-F) C C 0)=true:=by
   have:=zoom_same hT (F:=F) (M:=T-F) (C:=C) (by omega) (by omega) (by omega) C 0 (by omega)
   rwa [hxl] at this
  have gzl:(zoomF (fO cs) F (T-F) C C 0).length / 2=C:=by rw [zoomF_len];omega
  have gzf:FPrs C (flosL (zoomF (fO cs) F (T-F) C C 0)):=⟨by omega,by
   have:=Flos_L (xs:=zoomF (fO cs) F (T-F) C C 0) (by rw [zoomF_len];omega)
   rwa [zoomF_len] at this⟩
  simp only [hsub]
  cases ho:finB o with
  | true=>
   have e3:cntE n (fO cs) (A:Int) m ls (F:Int) (T:Int) o=0:=by unfold cntE;rw [if_pos hr,if_pos ho]
   have e6:cntV n (fO cs) (A:Int) m ls (F:Int) (T:Int) o=cntL o (((fO cs).drop F).take (T-F)):=by unfold cntV;rw [if_pos e3];rfl
   simp only [condO_tx,condO_fx,hft,hlt,g4,e1,e4,hcc,z3,z33,hcM,e2,e5,gc,Int.toNat_natCast,ho,e3,e6,zz,s1,s2,sz,z0,z12,z16,z11,Bool.and_true,Bool.true_and,bindO_ok,sameF_nn,beq_self_eq_true,Int.natCast_zero,Bool.and_self,and_self,if_true,flosOf_L,gzf,gzl,fp0,gg2]
   try rfl
  | false=>
   have e3:cntE n (fO cs) (A:Int) m ls (F:Int) (T:Int) o=1:=by unfold cntE;rw [if_pos hr,ho];rfl
   have e6:cntV n (fO cs) (A:Int) m ls (F:Int) (T:Int) o=0:=by unfold cntV;rw [e3];rfl
   simp only [condO_tx,condO_fx,hft,hlt,g4,e1,e4,hcc,z3,z33,hcM,e2,e5,gc,Int.toNat_natCast,ho,e3,e6,zz,s1,s2,sz,z0,z12,z16,z11,Bool.and_true,Bool.true_and,bindO_ok,sameF_nn,beq_self_eq_true,Int.natCast_zero,Bool.and_self,and_self,if_true,flosOf_L,gzf,gzl,fp0,gg2]
   try rfl
 ·have hft:decide ((F:Int)<(T:Int))=false:=decide_eq_false (by omega)
  have hlt:=True.intro
  have g4:=True.intro
  have s1:=True.intro
  have s2:=True.intro
  have e1:ext35E n (fO cs) (A:Int) m ls (F:Int) (T:Int)=12:=by unfold ext35E;rw [if_pos hr,if_pos (by omega)]
  have e4:ext35V n (fO cs) (A:Int) m ls (F:Int) (T:Int)=(some 0,some 0):=by unfold ext35V;rw [e1];rfl
  by_cases hc1:c<1\/c>2048
  ·have hcc:(if c<1\/c>2048 then (3:Int) else 0)=3:=if_pos hc1
   have hcM:=True.intro
   have gc:=True.intro
   have sz:=True.intro
   have gzf:=True.intro
   have gzl:=True.intro
   have e2:zoomE n (fO cs) (A:Int) m ls (F:Int) (T:Int) c=3:=by unfold zoomE;rw [if_pos hr,if_pos hc1]
   have e5:zoomV n (fO cs) (A:Int) m ls (F:Int) (T:Int) c=[]:=by unfold zoomV;rw [e2];rfl
   cases ho:finB o with
   | true=>
    have e3:cntE n (fO cs) (A:Int) m ls (F:Int) (T:Int) o=0:=by unfold cntE;rw [if_pos hr,if_pos ho]
    have e6:cntV n (fO cs) (A:Int) m ls (F:Int) (T:Int) o=cntL o (((fO cs).drop F).take (T-F)):=by unfold cntV;rw [if_pos e3];rfl
    simp only [condO_tx,condO_fx,hft,hlt,g4,e1,e4,hcc,z3,z33,hcM,e2,e5,gc,Int.toNat_natCast,ho,e3,e6,zz,s1,s2,sz,z0,z12,z16,z11,Bool.and_true,Bool.true_and,bindO_ok,sameF_nn,beq_self_eq_true,Int.natCast_zero,Bool.and_self,and_self,if_true,flosOf_L,gzf,gzl,fp0,gg2]
    try rfl
   | false=>
    have e3:cntE n (fO cs) (A:Int) m ls (F:Int) (T:Int) o=1:=by unfold cntE;rw [if_pos hr,ho];rfl
    have e6:cntV n (fO cs) (A:Int) m ls (F:Int) (T:Int) o=0:=by unfold cntV;rw [e3];rfl
    simp only [condO_tx,condO_fx,hft,hlt,g4,e1,e4,hcc,z3,z33,hcM,e2,e5,gc,Int.toNat_natCast,ho,e3,e6,zz,s1,s2,sz,z0,z12,z16,z11,Bool.and_true,Bool.true_and,bindO_ok,sameF_nn,beq_self_eq_true,Int.natCast_zero,Bool.and_self,and_self,if_true,flosOf_L,gzf,gzl,fp0,gg2]
    try rfl
  have hcc:(if c<1\/c>2048 then (3:Int) else 0)=0:=if_neg hc1
  obtain ⟨C,rfl⟩:=Int.eq_ofNat_of_zero_le (show 0<=c by omega)
  by_cases hcm:((T-F:Nat):Int)<(C:Int)
  ·have hcM:decide (((T-F:Nat):Int)<(C:Int))=true:=decide_eq_true hcm
   have gc:=True.intro
   have sz:=True.intro
   have gzf:=True.intro
   have gzl:=True.intro
   have e2:zoomE n (fO cs) (A:Int) m ls (F:Int) (T:Int) (C:Int)=16:=by unfold zoomE;rw [if_pos hr,if_neg hc1,if_pos (by omega)]
   have e5:zoomV n (fO cs) (A:Int) m ls (F:Int) (T:Int) (C:Int)=[]:=by unfold zoomV;rw [e2];rfl
   cases ho:finB o with
   | true=>
    have e3:cntE n (fO cs) (A:Int) m ls (F:Int) (T:Int) o=0:=by unfold cntE;rw [if_pos hr,if_pos ho]
    have e6:cntV n (fO cs) (A:Int) m ls (F:Int) (T:Int) o=cntL o (((fO cs).drop F).take (T-F)):=by unfold cntV;rw [if_pos e3];rfl
    simp only [condO_tx,condO_fx,hft,hlt,g4,e1,e4,hcc,z3,z33,hcM,e2,e5,gc,Int.toNat_natCast,ho,e3,e6,zz,s1,s2,sz,z0,z12,z16,z11,Bool.and_true,Bool.true_and,bindO_ok,sameF_nn,beq_self_eq_true,Int.natCast_zero,Bool.and_self,and_self,if_true,flosOf_L,gzf,gzl,fp0,gg2]
    try rfl
   | false=>
    have e3:cntE n (fO cs) (A:Int) m ls (F:Int) (T:Int) o=1:=by unfold cntE;rw [if_pos hr,ho];rfl
    have e6:cntV n (fO cs) (A:Int) m ls (F:Int) (T:Int) o=0:=by unfold cntV;rw [e3];rfl
    simp only [condO_tx,condO_fx,hft,hlt,g4,e1,e4,hcc,z3,z33,hcM,e2,e5,gc,Int.toNat_natCast,ho,e3,e6,zz,s1,s2,sz,z0,z12,z16,z11,Bool.and_true,Bool.true_and,bindO_ok,sameF_nn,beq_self_eq_true,Int.natCast_zero,Bool.and_self,and_self,if_true,flosOf_L,gzf,gzl,fp0,gg2]
    try rfl
  have hcM:decide (((T-F:Nat):Int)<(C:Int))=false:=decide_eq_false hcm
  have hsub:((T:Int)-(F:Int)).toNat=T-F:=by omega
  have gc:(n<=4096/\(0:Int)<=(F:Int)/\(F:Int)<=(T:Int)/\(T:Int)<=(n:Int)/\(1:Int)<=(C:Int)/\(C:Int)<=2048/\(C:Int)<=(T:Int)-(F:Int))=True:=eq_true (by omega)
  have e2:zoomE n (fO cs) (A:Int) m ls (F:Int) (T:Int) (C:Int)=0:=by unfold zoomE;rw [if_pos hr,if_neg hc1,if_neg (by omega)]
  have e5:zoomV n (fO cs) (A:Int) m ls (F:Int) (T:Int) (C:Int)=zoomR (fO cs) ls A n F (T-F) C C 0:=by unfold zoomV;rw [if_pos e2,hsub,Int.toNat_natCast,Int.toNat_natCast]
  have sz:sameF (zoomR (fO cs) ls A n F (T-F) C C 0) (zoomF (fO cs) F (T-F) C C 0)=true:=by
   have:=zoom_same hT (F:=F) (M:=T-F) (C:=C) (by omega) (by omega) (by omega) C 0 (by omega)
   rwa [hxl] at this
  have gzl:(zoomF (fO cs) F (T-F) C C 0).length / 2=C:=by rw [zoomF_len];omega
  have gzf:FPrs C (flosL (zoomF (fO cs) F (T-F) C C 0)):=⟨by omega,by
   have:=Flos_L (xs:=zoomF (fO cs) F (T-F) C C 0) (by rw [zoomF_len];omega)
   rwa [zoomF_len] at this⟩
  simp only [hsub]
  cases ho:finB o with
  | true=>
   have e3:cntE n (fO cs) (A:Int) m ls (F:Int) (T:Int) o=0:=by unfold cntE;rw [if_pos hr,if_pos ho]
   have e6:cntV n (fO cs) (A:Int) m ls (F:Int) (T:Int) o=cntL o (((fO cs).drop F).take (T-F)):=by unfold cntV;rw [if_pos e3];rfl
   simp only [condO_tx,condO_fx,hft,hlt,g4,e1,e4,hcc,z3,z33,hcM,e2,e5,gc,Int.toNat_natCast,ho,e3,e6,zz,s1,s2,sz,z0,z12,z16,z11,Bool.and_true,Bool.true_and,bindO_ok,sameF_nn,beq_self_eq_true,Int.natCast_zero,Bool.and_self,and_self,if_true,flosOf_L,gzf,gzl,fp0,gg2]
   try rfl
  | false=>
   have e3:cntE n (fO cs) (A:Int) m ls (F:Int) (T:Int) o=1:=by unfold cntE;rw [if_pos hr,ho];rfl
   have e6:cntV n (fO cs) (A:Int) m ls (F:Int) (T:Int) o=0:=by unfold cntV;rw [e3];rfl
   simp only [condO_tx,condO_fx,hft,hlt,g4,e1,e4,hcc,z3,z33,hcM,e2,e5,gc,Int.toNat_natCast,ho,e3,e6,zz,s1,s2,sz,z0,z12,z16,z11,Bool.and_true,Bool.true_and,bindO_ok,sameF_nn,beq_self_eq_true,Int.natCast_zero,Bool.and_self,and_self,if_true,flosOf_L,gzf,gzl,fp0,gg2]
   try rfl
end Go.Abs
end
