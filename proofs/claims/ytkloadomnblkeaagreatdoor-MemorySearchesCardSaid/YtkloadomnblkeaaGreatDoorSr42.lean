/- Part 42 of the library that the proof of the statement uses: an abstract run of the program, proved right, and what its functions give. -/
import Derived.Test.YtkloadomnblkeaaGreatDoorSr41
set_option linter.unusedVariables false
set_option linter.unusedSimpArgs false

noncomputable section
namespace Go.Abs
open Go.Proofs Classical Go.Abs.Fin
theorem peakR_spec {xs:List (Option Nat)} {n:Nat} (hf:FinL xs) (hn:xs.length=n):∀ (k b i:Nat),i+k=n->b<n->b<=i->(∀ j,j<i->keyAt xs j<=keyAt xs b)->(∀ j,j<b->keyAt xs j<keyAt xs b)->
  peakR xs k b i<n/\(∀ j,j<n->keyAt xs j<=keyAt xs (peakR xs k b i))/\(∀ j,j<peakR xs k b i->keyAt xs j<keyAt xs (peakR xs k b i))
 | 0,b,i,hi,hb,hbi,h1,h2=>⟨hb,fun j hj=>h1 j (by omega),h2⟩
 | k+1,b,i,hi,hb,hbi,h1,h2=>by
  have e:(ordO .f32 (xs.getD i none) (xs.getD b none)==some .gt)=decide (keyAt xs b<keyAt xs i):=bgt (hf.get (by omega)) (hf.get (by omega))
  rw [peakR,e]
  by_cases h:keyAt xs b<keyAt xs i
  ·rw [if_pos (decide_eq_true h)]
   refine peakR_spec hf hn k i (i+1) (by omega) (by omega) (by omega) (fun j hj=>?_) (fun j hj=>?_)
   ·by_cases q:j=i
    ·subst q;exact Int.le_refl _
    ·have:=h1 j (by omega);omega
   ·have:=h1 j hj;omega
  ·rw [if_neg (by rw [decide_eq_true_eq];exact h)]
   refine peakR_spec hf hn k b (i+1) (by omega) hb (by omega) (fun j hj=>?_) h2
   by_cases q:j=i
   ·subst q;omega
   ·exact h1 j (by omega)
theorem peak_same {xs:List (Option Nat)} {A m n:Nat} {ls:List AV} (hT:TreeOk xs A m ls) (hn:xs.length=n) (h0:0<n):peakV n xs (A:Int) ls=(peakR xs n 0 0:Nat):=by
 subst hn
 obtain ⟨p1,p2,p3⟩:=peakR_spec hT.fin rfl xs.length 0 0 (by omega) h0 (by omega) (fun j hj=>by omega) (fun j hj=>by omega)
 have hs:Std (keyAt xs) (extP xs ls (A:Int) (xs.length:Int) 0 (xs.length:Int)).1 (extP xs ls (A:Int) (xs.length:Int) 0 (xs.length:Int)).2 0 xs.length:=extP_ok hT (f:=0) (t:=xs.length) h0 (Nat.le_refl _)
 unfold peakV
 generalize (extP xs ls (A:Int) (xs.length:Int) 0 (xs.length:Int))=q at hs
 generalize peakR xs xs.length 0 0=r at p1 p2 p3
 obtain ⟨_,g2,_,⟨k,_,k1,k2⟩,g5⟩:=hs
 have kr:keyAt xs r=fkey q.2:=by
  have a:=(g5 r (by omega) p1).2
  have b:=p2 k k1
  omega
 have hp:∀ j,j<xs.length->eqS (xs.getD j none) q.2=decide (keyAt xs j=fkey q.2):=fun j hj=>eqS_key (hT.fin.get hj) g2
 have e:=firstH_to (p:=fun j=>eqS (xs.getD j none) q.2) (n:=xs.length) (at_:=0) (En:=r) (by omega) (by omega) (fun j _ hj=>by
  show eqS (xs.getD j none) q.2=false
  rw [hp j (by omega)]
  have:=p3 j hj
  exact decide_eq_false (by omega))
 rw [Nat.sub_zero] at e
 rw [e]
 exact firstH_hit p1 (by show eqS (xs.getD r none) q.2=true;rw [hp r p1];exact decide_eq_true kr)
theorem run_6' {n m N:Nat} {cs ls:List AV} {b f t c:Int} {o:Option Nat} (h:Flos n cs) (hw:LvsW m ls):
  (fsM mzV waysR N 12).call (List RLeaf) 6 [.ofB (.list n cs),.s (.agg [.b (.int .i64 b),.b (.list m ls)]),.s (.agg [.b (.int .i64 f),.b (.int .i64 t),.b (.int .i64 c),.b (.flo .f32 o)])] [] (resK [false])=some [.v (.bool true)]:=by
 rw [run_6]
 simp only [shut_eq,guardO_dec,hw,h,if_true,true_and]
 cases hlb:lenB (n:Int) 64 4096 with
 | false=>rfl
 | true=>
 cases hsh:shortT m ls with
 | false=>rfl
 | true=>
 have hL:=hw.short hsh
 have hn:(n<=100000000)=True:=by
  unfold lenB at hlb
  have w:IntKind.i64.wrap (4096+2)=4098:=rfl
  rw [decide_eq_true_eq,w] at hlb
  exact eq_true (by omega)
 have z0:((0:Int)==0)=true:=rfl
 simp only [Bool.not_true,condO_fx,bindO_ok,hL,hn,if_true,and_self,and_true,true_and]
 by_cases hc:chkT n (fO cs) b m ls=0
 case neg=>
  have e1:seekE n (fO cs) b m ls f o=chkT n (fO cs) b m ls:=if_neg hc
  have e2:peakE n (fO cs) b m ls=chkT n (fO cs) b m ls:=if_neg hc
  have e3:(chkT n (fO cs) b m ls==0)=false:=beq_eq_false_iff_ne.2 hc
  simp only [skV,skE,e1,e2,e3,hc,if_false,condO_fx,condO_tx,bindO_ok,beq_self_eq_true]
 obtain ⟨A,rfl,hT⟩:=tree_ok h.len hc
 have e3:(chkT n (fO cs) (A:Int) m ls==0)=true:=beq_iff_eq.2 hc
 by_cases hf:f<0\/f>(n:Int)
 case pos=>
  have e1:seekE n (fO cs) (A:Int) m ls f o=3:=by
   unfold seekE
   rw [if_pos hc,if_pos hf];rfl
  have h3:((3:Int)=0)=False:=eq_false (by decide)
  have h3':((3:Int)==0)=false:=rfl
  by_cases hn0:n=0
  ·have e2:peakE n (fO cs) (A:Int) m ls=12:=by
    unfold peakE
    rw [if_pos hc,hn0];rfl
   have h12:((12:Int)=0)=False:=eq_false (by decide)
   have hp0:¬ ((n:Int)>0):=by omega
   simp only [condO_dec,skV,skE,e1,e2,e3,hf,hp0,h3,h3',h12,z0,if_true,if_false,condO_fx,condO_tx,bindO_ok,beq_self_eq_true]
  ·have e2:peakE n (fO cs) (A:Int) m ls=0:=by
    unfold peakE
    rw [if_pos hc,if_neg (by rw [beq_iff_eq];omega)]
   have e4:=peak_same hT h.len (by omega)
   have hp0:(n:Int)>0:=by omega
   have hpn:¬ ((peakR (fO cs) n 0 0:Int)<0):=by omega
   simp only [condO_dec,skV,skE,e1,e2,e3,e4,hf,hp0,hpn,h3,h3',z0,if_true,if_false,condO_fx,condO_tx,bindO_ok,beq_self_eq_true]
 have hfl:(0<=f)=True:=eq_true (by omega)
 have h1':((1:Int)==0)=false:=rfl
 have h1n:((1:Int)=0)=False:=eq_false (by decide)
 by_cases hn0:n=0
 ·have e2:peakE n (fO cs) (A:Int) m ls=12:=by
   unfold peakE
   rw [if_pos hc,hn0];rfl
  have h12:((12:Int)=0)=False:=eq_false (by decide)
  have hp0:¬ ((n:Int)>0):=by omega
  cases ho:finB o with
  | true=>
   have e1:seekE n (fO cs) (A:Int) m ls f o=0:=by
    unfold seekE
    rw [if_pos hc,if_neg hf,ho];rfl
   simp only [condO_dec,skV,skE,e1,e2,e3,hf,hfl,ho,hp0,h12,z0,Bool.not_true,if_true,if_false,condO_fx,condO_tx,bindO_ok,beq_self_eq_true]
  | false=>
   have e1:seekE n (fO cs) (A:Int) m ls f o=1:=by
    unfold seekE
    rw [if_pos hc,if_neg hf,ho];rfl
   simp only [condO_dec,skV,skE,e1,e2,e3,hf,hfl,ho,hp0,h12,h1',h1n,z0,Bool.not_false,if_true,if_false,condO_fx,condO_tx,bindO_ok,beq_self_eq_true]
 ·have e2:peakE n (fO cs) (A:Int) m ls=0:=by
   unfold peakE
   rw [if_pos hc,if_neg (by rw [beq_iff_eq];omega)]
  have e4:=peak_same hT h.len (by omega)
  have hp0:(n:Int)>0:=by omega
  have hpn:¬ ((peakR (fO cs) n 0 0:Int)<0):=by omega
  cases ho:finB o with
  | true=>
   have e1:seekE n (fO cs) (A:Int) m ls f o=0:=by
    unfold seekE
    rw [if_pos hc,if_neg hf,ho];rfl
   simp only [condO_dec,skV,skE,e1,e2,e3,e4,hf,hfl,ho,hp0,hpn,z0,Bool.not_true,if_true,if_false,condO_fx,condO_tx,bindO_ok,beq_self_eq_true]
  | false=>
   have e1:seekE n (fO cs) (A:Int) m ls f o=1:=by
    unfold seekE
    rw [if_pos hc,if_neg hf,ho];rfl
   simp only [condO_dec,skV,skE,e1,e2,e3,e4,hf,hfl,ho,hp0,hpn,h1',h1n,z0,Bool.not_false,if_true,if_false,condO_fx,condO_tx,bindO_ok,beq_self_eq_true]
end Go.Abs
end
