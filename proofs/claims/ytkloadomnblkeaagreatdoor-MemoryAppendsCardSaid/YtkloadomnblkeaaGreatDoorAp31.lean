/- Part 31 of the library of the proof: an abstract run of the program. -/
import Derived.Test.YtkloadomnblkeaaGreatDoorAp28
import Derived.Test.YtkloadomnblkeaaGreatDoorAp29
import Derived.Test.YtkloadomnblkeaaGreatDoorAp30
set_option linter.unusedVariables false
set_option linter.unusedSimpArgs false

noncomputable section
namespace Go.Abs
open Go.Proofs Classical Go.Abs.Fin
def Std (f:Nat->Int) (a b:Option Nat) (lo hi:Nat):Prop:=
 finB a=true/\finB b=true/\(∃ k,lo<=k/\k<hi/\f k=fkey a)/\(∃ k,lo<=k/\k<hi/\f k=fkey b)/\∀ k,lo<=k->k<hi->fkey a<=f k/\f k<=fkey b
theorem Std.join {f:Nat->Int} {a b c d:Option Nat} {lo mid hi:Nat} (h:Std f a b lo mid) (h':Std f c d mid hi):Std f (minO a c) (maxO b d) lo hi:=by
 obtain ⟨h1,h2,⟨k1,h3,h4,h5⟩,⟨k2,h6,h7,h8⟩,h9⟩:=h
 obtain ⟨g1,g2,⟨j1,g3,g4,g5⟩,⟨j2,g6,g7,g8⟩,g9⟩:=h'
 obtain ⟨_,m2,m3⟩:=minO_fin h1 g1
 obtain ⟨_,n2,n3⟩:=maxO_fin h2 g2
 refine ⟨m2,n2,?_,?_,?_⟩
 ·rw [m3]
  rcases Int.le_total (fkey a) (fkey c) with h | h
  ·exact ⟨k1,by omega,by omega,by omega⟩
  ·exact ⟨j1,by omega,by omega,by omega⟩
 ·rw [n3]
  rcases Int.le_total (fkey b) (fkey d) with h | h
  ·exact ⟨j2,by omega,by omega,by omega⟩
  ·exact ⟨k2,by omega,by omega,by omega⟩
 ·intro k hk1 hk2
  rw [m3,n3]
  by_cases hm:k<mid
  ·have:=h9 k hk1 hm;omega
  ·have:=g9 k (by omega) hk2;omega
theorem Std.keys {f:Nat->Int} {a b c d:Option Nat} {lo hi:Nat} (h:Std f a b lo hi) (h':Std f c d lo hi):fkey a=fkey c/\fkey b=fkey d:=by
 obtain ⟨h1,h2,⟨k1,h3,h4,h5⟩,⟨k2,h6,h7,h8⟩,h9⟩:=h
 obtain ⟨g1,g2,⟨j1,g3,g4,g5⟩,⟨j2,g6,g7,g8⟩,g9⟩:=h'
 have a1:=h9 j1 g3 g4
 have a2:=h9 j2 g6 g7
 have a3:=g9 k1 h3 h4
 have a4:=g9 k2 h6 h7
 omega
theorem getDO_lt {l m:List (Option Nat)} {i:Nat} (h:i<l.length):(l++m).getD i none=l.getD i none:=by
 rw [List.getD_eq_getElem?_getD,List.getD_eq_getElem?_getD,List.getElem?_append_left h]
theorem getDO_ge {l m:List (Option Nat)} {i:Nat} (h:l.length<=i):(l++m).getD i none=m.getD (i-l.length) none:=by
 rw [List.getD_eq_getElem?_getD,List.getD_eq_getElem?_getD,List.getElem?_append_right h]
theorem getDO_set {l:List (Option Nat)} {i j:Nat} {x:Option Nat} (h:i<l.length):(l.set i x).getD j none=if i=j then x else l.getD j none:=by
 rw [List.getD_eq_getElem?_getD,List.getD_eq_getElem?_getD,List.getElem?_set]
 split
 ·rename_i hij;subst hij;simp [h]
 ·rfl
theorem setLast_get {acc:List (Option Nat)} {x:Option Nat × Option Nat} {c:Nat} (hc:acc.length=2*(c+1)) (j:Nat):
  (setLast acc x).getD (2*j) none=(if j=c then minO (acc.getD (2*c) none) x.1 else acc.getD (2*j) none)/\
  (setLast acc x).getD (2*j+1) none=(if j=c then maxO (acc.getD (2*c+1) none) x.2 else acc.getD (2*j+1) none):=by
 have e1:acc.length-2=2*c:=by omega
 have e2:acc.length-1=2*c+1:=by omega
 unfold setLast
 rw [e1,e2]
 simp only [getDO_set (show 2*c+1<(acc.set (2*c) (minO (acc.getD (2*c) none) x.1)).length by rw [List.length_set];omega),getDO_set (show 2*c<acc.length by omega)]
 constructor
 ·rw [if_neg (by omega)]
  by_cases h:j=c
  ·rw [if_pos (by omega),if_pos h]
  ·rw [if_neg (by omega),if_neg h]
 ·by_cases h:j=c
  ·rw [if_pos (by omega),if_pos h]
  ·rw [if_neg (by omega),if_neg h,if_neg (by omega)]
def StL (f:Nat->Int) (n w:Nat) (L:List (Option Nat)):Prop:=
 ∃ c,L.length=2*c/\n<=c*w/\c*w<n+w/\∀ j,j<c->Std f (L.getD (2*j) none) (L.getD (2*j+1) none) (j*w) (min ((j+1)*w) n)
theorem grpF_std {f:Nat->Int} {n w a:Nat} (hw:1<=w) (ha:1<=a) (hn:0<n):∀ (l:List (Option Nat × Option Nat)) (i c:Nat) (acc:List (Option Nat)),
  acc.length=2*c->i<=c*a->c*a<i+a->(i=0\/(i-1)*w<n)->n<=(i+l.length)*w->(0<l.length->(i+l.length-1)*w<n)->
  (∀ k,k<l.length->Std f (l.getD k (none,none)).1 (l.getD k (none,none)).2 ((i+k)*w) (min ((i+k+1)*w) n))->
  (∀ j,j<c->Std f (acc.getD (2*j) none) (acc.getD (2*j+1) none) (j*(a*w)) (min ((j+1)*(a*w)) (min (i*w) n)))->
  StL f n (a*w) (grpF a i acc l)
 | [],i,c,acc,h1,h2,h3,h4,h5,h6,h7,h8=>by
  simp only [List.length_nil,Nat.add_zero] at h5
  have e1:i*w<=c*(a*w):=by rw [←Nat.mul_assoc];exact Nat.mul_le_mul_right _ h2
  have hi0:i≠0:=by rintro rfl;simp at h5;omega
  have e2:c*(a*w)<n+a*w:=by
   have h4':(i-1)*w<n:=by rcases h4 with h | h<;>first | exact h | omega
   have:c*a<=(i-1)+a:=by omega
   have:=Nat.mul_le_mul_right w this
   rw [Nat.add_mul,Nat.mul_assoc] at this
   omega
  refine ⟨c,h1,by omega,e2,fun j hj=>?_⟩
  have:=h8 j hj
  rwa [Nat.min_eq_right (show n<=i*w from h5)] at this
 | x::l,i,c,acc,h1,h2,h3,h4,h5,h6,h7,h8=>by
  have h70:Std f x.1 x.2 (i*w) (min ((i+1)*w) n):=h7 0 (by simp)
  have h6':=h6 (by simp)
  simp only [List.length_cons] at h5 h6' h7
  have hin:i*w<n:=by
   have:i*w<=(i+(l.length+1)-1)*w:=Nat.mul_le_mul_right _ (by omega)
   omega
  have es:(i+1)*w=i*w+w:=Nat.succ_mul i w
  have h7':∀ k,k<l.length->Std f (l.getD k (none,none)).1 (l.getD k (none,none)).2 ((i+1+k)*w) (min ((i+1+k+1)*w) n):=by
   intro k hk
   have:=h7 (k+1) (by omega)
   rw [show i+(k+1)=i+1+k by omega] at this
   exact this
  have h5':n<=(i+1+l.length)*w:=by rw [show i+1+l.length=i+(l.length+1) by omega];exact h5
  have h6'':0<l.length->(i+1+l.length-1)*w<n:=by
   intro _;rw [show i+1+l.length-1=i+(l.length+1)-1 by omega];exact h6'
  rw [grpF]
  split
  ·rename_i h0
   have hic:i=c*a:=by
    obtain ⟨q,hq⟩:=Nat.dvd_of_mod_eq_zero h0
    rw [Nat.mul_comm a q] at hq
    have hqc:q=c:=by
     rcases Nat.lt_trichotomy q c with h | h | h
     ·have:=Nat.mul_le_mul_right a (show q+1<=c from h)
      rw [Nat.succ_mul] at this;omega
     ·exact h
     ·have:=Nat.mul_le_mul_right a (show c+1<=q from h)
      rw [Nat.succ_mul] at this;omega
    rw [hq,hqc]
   have ec:(c+1)*a=c*a+a:=Nat.succ_mul c a
   have ecw:c*(a*w)=i*w:=by rw [hic,Nat.mul_assoc]
   have ecw1:(c+1)*(a*w)=c*(a*w)+a*w:=Nat.succ_mul _ _
   have haw:w<=a*w:=Nat.le_mul_of_pos_left _ (by omega)
   refine grpF_std hw ha hn l (i+1) (c+1) (acc++[x.1,x.2]) (by simp [h1];omega) (by omega) (by omega) (.inr (by simpa using hin)) h5' h6'' h7' fun j hj=>?_
   by_cases hjc:j=c
   ·subst hjc
    rw [getDO_ge (by omega),getDO_ge (by omega),show 2*j-acc.length=0 by omega,show 2*j+1-acc.length=1 by omega]
    have em:min ((j+1)*(a*w)) (min ((i+1)*w) n)=min ((i+1)*w) n:=by omega
    rw [em,ecw]
    exact h70
   ·have hjc':j<c:=by omega
    rw [getDO_lt (by omega),getDO_lt (by omega)]
    have:=h8 j hjc'
    have ej:(j+1)*(a*w)<=c*(a*w):=Nat.mul_le_mul_right _ hjc'
    have em:min ((j+1)*(a*w)) (min ((i+1)*w) n)=min ((j+1)*(a*w)) (min (i*w) n):=by omega
    rw [em]
    exact this
  ·rename_i h0
   obtain ⟨c,rfl⟩:∃ c',c=c' + 1:=by
    cases c with
    | zero=>exact absurd (by rw [show i=0 by omega];exact Nat.zero_mod a) h0
    | succ c=>exact ⟨c,rfl⟩
   have hne:i≠(c+1)*a:=by rintro rfl;exact h0 (Nat.mul_mod_left _ _)
   have ei:i+1<=(c+1)*a:=by omega
   have ei2:(i+1)*w<=(c+1)*(a*w):=by rw [←Nat.mul_assoc];exact Nat.mul_le_mul_right _ ei
   refine grpF_std hw ha hn l (i+1) (c+1) (setLast acc x) (by rw [setLast_len];exact h1) (by omega) (by omega) (.inr (by simpa using hin)) h5' h6'' h7' fun j hj=>?_
   obtain ⟨s1,s2⟩:=setLast_get (x:=x) h1 j
   rw [s1,s2]
   have:=h8 j hj
   by_cases hjc:j=c
   ·subst hjc
    rw [if_pos rfl,if_pos rfl]
    have em:min ((j+1)*(a*w)) (min ((i+1)*w) n)=min ((i+1)*w) n:=by omega
    have em2:min ((j+1)*(a*w)) (min (i*w) n)=i*w:=by omega
    rw [em];rw [em2] at this
    exact this.join h70
   ·rw [if_neg hjc,if_neg hjc]
    have hjc':j+1<=c:=by omega
    have ej:(j+1)*(a*w)<=c*(a*w):=Nat.mul_le_mul_right _ hjc'
    have ec:(c+1)*a=c*a+a:=Nat.succ_mul c a
    have ej2:c*(a*w)<=i*w:=by rw [←Nat.mul_assoc];exact Nat.mul_le_mul_right _ (by omega)
    have em:min ((j+1)*(a*w)) (min ((i+1)*w) n)=min ((j+1)*(a*w)) (min (i*w) n):=by omega
    rw [em]
    exact this
def keyAt (xs:List (Option Nat)) (i:Nat):Int:=fkey (xs.getD i none)
theorem dup_std {xs:List (Option Nat)} {b:Nat} (hb:1<=b) (h0:0<xs.length) (hf:FinL xs):StL (keyAt xs) xs.length b (grpF b 0 [] (dupC xs)):=by
 have hl:(dupC xs).length=xs.length:=by simp [dupC]
 have:=grpF_std (f:=keyAt xs) (n:=xs.length) (w:=1) (a:=b) (by omega) hb h0 (dupC xs) 0 0 [] rfl (by omega) (by omega) (.inl rfl) (by omega) (by omega) (fun k hk=>?_) (fun j hj=>by omega)
 ·rwa [Nat.mul_one] at this
 ·rw [hl] at hk
  have hx:(dupC xs).getD k (none,none)=(clean1 (xs.getD k none),clean1 (xs.getD k none)):=by
   rw [dupC,List.getD_eq_getElem?_getD,List.getD_eq_getElem?_getD,List.getElem?_map,List.getElem?_eq_getElem hk];rfl
  have hfk:=hf.get hk
  have he:fkey (clean1 (xs.getD k none))=keyAt xs k:=key_clean hfk
  rw [hx,show min ((0+k+1)*1) xs.length=k+1 by omega,show (0+k)*1=k by omega]
  refine ⟨finB_clean hfk,finB_clean hfk,⟨k,by omega,by omega,he.symm⟩,⟨k,by omega,by omega,he.symm⟩,fun j h1 h2=>?_⟩
  have:j=k:=by omega
  subst this
  simp only [he]
  omega
theorem half_std {f:Nat->Int} {n w:Nat} {L:List (Option Nat)} (hw:1<=w) (hn:0<n) (h:StL f n w L):StL f n (2*w) (grpF 2 0 [] (pairsF L)):=by
 obtain ⟨c,h1,h2,h3,h4⟩:=h
 have hl:(pairsF L).length=c:=by rw [pairsF_len];omega
 have hc:0<c:=by cases c with | zero=>rw [Nat.zero_mul] at h2;omega | succ c=>omega
 refine grpF_std hw (by omega) hn (pairsF L) 0 0 [] rfl (by omega) (by omega) (.inl rfl) (by rw [hl,Nat.zero_add];exact h2) (fun _=>?_) (fun k hk=>?_) (fun j hj=>by omega)
 ·rw [hl,Nat.zero_add]
  obtain ⟨c,rfl⟩:∃ c',c=c' + 1:=⟨c-1,by omega⟩
  rw [Nat.succ_mul] at h3
  simp only [Nat.add_sub_cancel]
  omega
 ·rw [hl] at hk
  rw [pairsF_get L k (by omega),Nat.zero_add]
  exact h4 k hk
theorem extV_lt:∀ (l:List (Option Nat)) (p:Option Nat),finB p=true->FinL l->finB (extV .lt p l)=true/\fkey (extV .lt p l)<=fkey p/\(∀ x∈l,fkey (extV .lt p l)<=fkey x)/\(fkey (extV .lt p l)=fkey p\/∃ x∈l,fkey x=fkey (extV .lt p l))
 | [],p,hp,_=>⟨hp,Int.le_refl _,(fun x hx=>by cases hx),.inl rfl⟩
 | x::l,p,hp,h=>by
  have hx:=h x List.mem_cons_self
  rw [extV]
  by_cases h0:ordO .f32 x p=some .lt
  ·rw [if_pos h0]
   have hk:=(ord_lt hx hp).1 h0
   obtain ⟨a1,a2,a3,a4⟩:=extV_lt l x hx (fun y hy=>h y (List.mem_cons_of_mem _ hy))
   refine ⟨a1,by omega,fun y hy=>?_,?_⟩
   ·rcases List.mem_cons.1 hy with rfl | hy
    ·exact a2
    ·exact a3 y hy
   ·rcases a4 with a4 | ⟨y,hy,a4⟩
    ·exact .inr ⟨x,List.mem_cons_self,a4.symm⟩
    ·exact .inr ⟨y,List.mem_cons_of_mem _ hy,a4⟩
  ·rw [if_neg h0]
   have hk:¬ fkey x<fkey p:=fun hc=>h0 ((ord_lt hx hp).2 hc)
   obtain ⟨a1,a2,a3,a4⟩:=extV_lt l p hp (fun y hy=>h y (List.mem_cons_of_mem _ hy))
   refine ⟨a1,a2,fun y hy=>?_,?_⟩
   ·rcases List.mem_cons.1 hy with rfl | hy
    ·omega
    ·exact a3 y hy
   ·rcases a4 with a4 | ⟨y,hy,a4⟩
    ·exact .inl a4
    ·exact .inr ⟨y,List.mem_cons_of_mem _ hy,a4⟩
theorem extV_gt:∀ (l:List (Option Nat)) (p:Option Nat),finB p=true->FinL l->finB (extV .gt p l)=true/\fkey p<=fkey (extV .gt p l)/\(∀ x∈l,fkey x<=fkey (extV .gt p l))/\(fkey (extV .gt p l)=fkey p\/∃ x∈l,fkey x=fkey (extV .gt p l))
 | [],p,hp,_=>⟨hp,Int.le_refl _,(fun x hx=>by cases hx),.inl rfl⟩
 | x::l,p,hp,h=>by
  have hx:=h x List.mem_cons_self
  rw [extV]
  by_cases h0:ordO .f32 x p=some .gt
  ·rw [if_pos h0]
   have hk:=(ord_gt hx hp).1 h0
   obtain ⟨a1,a2,a3,a4⟩:=extV_gt l x hx (fun y hy=>h y (List.mem_cons_of_mem _ hy))
   refine ⟨a1,by omega,fun y hy=>?_,?_⟩
   ·rcases List.mem_cons.1 hy with rfl | hy
    ·exact a2
    ·exact a3 y hy
   ·rcases a4 with a4 | ⟨y,hy,a4⟩
    ·exact .inr ⟨x,List.mem_cons_self,a4.symm⟩
    ·exact .inr ⟨y,List.mem_cons_of_mem _ hy,a4⟩
  ·rw [if_neg h0]
   have hk:¬ fkey p<fkey x:=fun hc=>h0 ((ord_gt hx hp).2 hc)
   obtain ⟨a1,a2,a3,a4⟩:=extV_gt l p hp (fun y hy=>h y (List.mem_cons_of_mem _ hy))
   refine ⟨a1,a2,fun y hy=>?_,?_⟩
   ·rcases List.mem_cons.1 hy with rfl | hy
    ·omega
    ·exact a3 y hy
   ·rcases a4 with a4 | ⟨y,hy,a4⟩
    ·exact .inl a4
    ·exact .inr ⟨y,List.mem_cons_of_mem _ hy,a4⟩
theorem cutW_len {xs:List (Option Nat)} {w p:Nat} (hp:p<xs.length):(cutW xs w p).length=min (p+w) xs.length-p:=by
 rw [cutW,List.length_take,List.length_drop];omega
theorem cutW_get {xs:List (Option Nat)} {w p k:Nat} (hp:p<xs.length) (hk:p+k<min (p+w) xs.length):(cutW xs w p).getD k none=xs.getD (p+k) none:=by
 rw [cutW,List.getD_eq_getElem?_getD,List.getD_eq_getElem?_getD,List.getElem?_take,if_pos (by omega),List.getElem?_drop]
theorem mem_getD {l:List (Option Nat)} {x:Option Nat} (h:x∈l):∃ k,k<l.length/\l.getD k none=x:=by
 obtain ⟨k,hk,rfl⟩:=List.mem_iff_getElem.1 h
 exact ⟨k,hk,by rw [List.getD_eq_getElem?_getD,List.getElem?_eq_getElem hk];rfl⟩
theorem cut_std {xs:List (Option Nat)} {w p:Nat} (hw:1<=w) (hp:p<xs.length) (hf:FinL xs):
  Std (keyAt xs) (extV .lt ((cutW xs w p).getD 0 none) (cutW xs w p)) (extV .gt ((cutW xs w p).getD 0 none) (cutW xs w p)) p (min (p+w) xs.length):=by
 have hl:=cutW_len (w:=w) hp
 have hg:∀ k,p+k<min (p+w) xs.length->(cutW xs w p).getD k none=xs.getD (p+k) none:=fun k hk=>cutW_get hp hk
 have hfc:FinL (cutW xs w p):=fun x hx=>by
  obtain ⟨k,hk,rfl⟩:=mem_getD hx
  rw [hg k (by omega)]
  exact hf.get (by omega)
 generalize cutW xs w p=l at hl hg hfc
 have hf0:finB (l.getD 0 none)=true:=hfc.get (by omega)
 have h0m:l.getD 0 none∈l:=by rw [List.getD_eq_getElem?_getD,List.getElem?_eq_getElem (by omega)];exact List.getElem_mem _
 have wit:∀ x∈l,∃ k,p<=k/\k<min (p+w) xs.length/\keyAt xs k=fkey x:=by
  intro x hx
  obtain ⟨k,hk,rfl⟩:=mem_getD hx
  exact ⟨p+k,by omega,by omega,by rw [hg k (by omega)];rfl⟩
 obtain ⟨a1,a2,a3,a4⟩:=extV_lt l _ hf0 hfc
 obtain ⟨b1,b2,b3,b4⟩:=extV_gt l _ hf0 hfc
 refine ⟨a1,b1,?_,?_,?_⟩
 ·rcases a4 with a4 | ⟨x,hx,a4⟩
  ·rw [a4];exact wit _ h0m
  ·rw [←a4];exact wit _ hx
 ·rcases b4 with b4 | ⟨x,hx,b4⟩
  ·rw [b4];exact wit _ h0m
  ·rw [←b4];exact wit _ hx
 ·intro k hk1 hk2
  clear a4 b4 wit
  have hk':=hg (k-p) (by omega)
  rw [show p+(k-p)=k by omega] at hk'
  have hm:xs.getD k none∈l:=by
   rw [←hk',List.getD_eq_getElem?_getD,List.getElem?_eq_getElem (by omega)];exact List.getElem_mem _
  exact ⟨a3 _ hm,b3 _ hm⟩
theorem row_std {xs:List (Option Nat)} {w:Nat} (hw:1<=w) (hf:FinL xs):∀ (k c p:Nat) (acc:List (Option Nat)),p=c*w->acc.length=2*c->xs.length<=p+k->p<xs.length+w->
  (∀ j,j<c->Std (keyAt xs) (acc.getD (2*j) none) (acc.getD (2*j+1) none) (j*w) (min ((j+1)*w) xs.length))->StL (keyAt xs) xs.length w (acc++rowF xs w k p)
 | 0,c,p,acc,hpc,ha,hk,hp,h=>by
  rw [rowF,List.append_nil]
  exact ⟨c,ha,by omega,by omega,h⟩
 | k+1,c,p,acc,hpc,ha,hk,hp,h=>by
  rw [rowF]
  by_cases hpl:p<xs.length
  ·rw [if_pos hpl,←List.append_assoc]
   have es:(c+1)*w=c*w+w:=Nat.succ_mul c w
   refine row_std hw hf k (c+1) (p+w) _ (by omega) (by simp [ha];omega) (by omega) (by omega) fun j hj=>?_
   by_cases hjc:j=c
   ·subst hjc
    rw [getDO_ge (by omega),getDO_ge (by omega),show 2*j-acc.length=0 by omega,show 2*j+1-acc.length=1 by omega,es,←hpc]
    exact cut_std hw hpl hf
   ·rw [getDO_lt (by omega),getDO_lt (by omega)]
    exact h j (by omega)
  ·rw [if_neg hpl,List.append_nil]
   exact ⟨c,ha,by omega,by omega,h⟩
structure SamL (L M:List (Option Nat)):Prop where
 len:L.length=M.length
 two:L.length%2=0
 few:L.length<=10000
 finL:FinL L
 finM:FinL M
 key:∀ i,i<L.length->fkey (L.getD i none)=fkey (M.getD i none)
theorem StL.same {f:Nat->Int} {n w:Nat} {L M:List (Option Nat)} (hw:1<=w) (hn:n<=5000) (h:StL f n w L) (h':StL f n w M):SamL L M:=by
 obtain ⟨c,h1,h2,h3,h4⟩:=h
 obtain ⟨d,g1,g2,g3,g4⟩:=h'
 have hcd:c=d:=by
  rcases Nat.lt_trichotomy c d with h | h | h
  ·have:=Nat.mul_le_mul_right w (show c+1<=d from h)
   rw [Nat.succ_mul] at this;omega
  ·exact h
  ·have:=Nat.mul_le_mul_right w (show d+1<=c from h)
   rw [Nat.succ_mul] at this;omega
 subst hcd
 have hcn:c<=n:=by
  rcases Nat.lt_or_ge n c with h | h
  ·have e:=Nat.mul_le_mul_right w (show n+1<=c from h)
   rw [Nat.succ_mul] at e
   have:n<=n*w:=Nat.le_mul_of_pos_right _ (by omega)
   omega
  ·exact h
 have fin:∀ (K:List (Option Nat)),K.length=2*c->(∀ j,j<c->Std f (K.getD (2*j) none) (K.getD (2*j+1) none) (j*w) (min ((j+1)*w) n))->FinL K:=by
  intro K hK hs x hx
  obtain ⟨k,hk,rfl⟩:=mem_getD hx
  have:=hs (k / 2) (by omega)
  rcases Nat.mod_two_eq_zero_or_one k with h | h
  ·rw [show k=2*(k / 2) by omega];exact this.1
  ·rw [show k=2*(k / 2)+1 by omega];exact this.2.1
 refine ⟨by omega,by omega,by omega,fin L h1 h4,fin M g1 g4,fun i hi=>?_⟩
 obtain ⟨k1,k2⟩:=(h4 (i / 2) (by omega)).keys (g4 (i / 2) (by omega))
 rcases Nat.mod_two_eq_zero_or_one i with h | h
 ·rw [show i=2*(i / 2) by omega];exact k1
 ·rw [show i=2*(i / 2)+1 by omega];exact k2
def SameLv:List (List (Option Nat))->List (List (Option Nat))->Prop
 | [],[]=>True
 | L::Ls,M::Ms=>SamL L M/\SameLv Ls Ms
 | _,_=>False
theorem lev_same {xs:List (Option Nat)} (h0:0<xs.length) (hn:xs.length<=5000) (hf:FinL xs):∀ (k k' w:Nat) (L:List (Option Nat)),1<=w->StL (keyAt xs) xs.length w L->L.length / 2<=k->xs.length<=w*2 ^ k'->SameLv (levF k L) (refF xs k' w)
 | k,k',w,L,hw,hL,hk,hk'=>by
  have hR:StL (keyAt xs) xs.length w (rowF xs w xs.length 0):=by
   have:=row_std hw hf xs.length 0 0 [] (by simp) rfl (by omega) (by omega) (fun j hj=>by omega)
   simpa using this
  have hs:=hL.same hw hn hR
  have hs1:=hs.len
  have hs2:=hs.two
  obtain ⟨c,h1,h2,h3,h4⟩:=hL
  have hc:0<c:=by cases c with | zero=>rw [Nat.zero_mul] at h2;omega | succ c=>omega
  have hcL:L.length / 2=c:=by omega
  by_cases hc1:c=1
  ·have e1:levF k L=[L]:=by
    cases k with
    | zero=>rfl
    | succ k=>rw [levF,if_neg (by omega)]
   have e2:refF xs k' w=[rowF xs w xs.length 0]:=by
    cases k' with
    | zero=>rfl
    | succ k'=>rw [refF,if_pos (by omega)]
   rw [e1,e2]
   exact ⟨hs,trivial⟩
  ·have hwn:w<xs.length:=by
    obtain ⟨c,rfl⟩:∃ c',c=c' + 2:=⟨c-2,by omega⟩
    have:2*w<=(c+2)*w:=Nat.mul_le_mul_right _ (by omega)
    omega
   obtain ⟨k,rfl⟩:∃ j,k=j+1:=⟨k-1,by omega⟩
   obtain ⟨k',rfl⟩:∃ j,k'=j+1:=by
    cases k' with
    | zero=>simp at hk';omega
    | succ k'=>exact ⟨k',rfl⟩
   have hh:=half_len L
   have hL2:=half_std hw h0 ⟨c,h1,h2,h3,h4⟩
   have e1:levF (k+1) L=L::levF k (grpF 2 0 [] (pairsF L)):=by rw [levF,if_pos (by omega)]
   have e2:refF xs (k' + 1) w=rowF xs w xs.length 0::refF xs k' (2*w):=by rw [refF,if_neg (by omega)]
   have hk2:xs.length<=2*w*2 ^ k':=by
    rw [Nat.pow_succ,Nat.mul_comm (2 ^ k') 2,←Nat.mul_assoc,Nat.mul_comm w 2] at hk';exact hk'
   rw [e1,e2]
   exact ⟨hs,lev_same h0 hn hf k k' (2*w) _ (by omega) hL2 (by omega) hk2⟩
theorem levels_same' {xs ys:List (Option Nat)} {b:Nat} (hb:1<=b) (hn:xs.length<=5000) (hf:FinL xs) (hfy:FinL ys) (hl:ys.length=xs.length) (hk:keyAt ys=keyAt xs):SameLv (levelsF ys b) (refLv xs b):=by
 unfold levelsF refLv
 rw [hl]
 by_cases h0:xs.length=0
 ·rw [if_pos h0,if_pos h0];trivial
 rw [if_neg h0,if_neg h0]
 have hfl:=first_len (xs:=ys) hb
 rw [hl] at hfl
 have hcb:(xs.length+b-1) / b<=xs.length:=by
  rw [Nat.div_le_iff_le_mul_add_pred (by omega)]
  have:xs.length<=b*xs.length:=Nat.le_mul_of_pos_left _ (by omega)
  omega
 have hd:=dup_std hb (by omega) hfy
 rw [hk,hl] at hd
 exact lev_same (by omega) hn hf _ _ b _ hb hd (by omega) (by omega)
theorem levels_same {xs:List (Option Nat)} {b:Nat} (hb:1<=b) (hn:xs.length<=5000) (hf:FinL xs):SameLv (levelsF xs b) (refLv xs b):=levels_same' hb hn hf hf rfl rfl
theorem SameLv.len:∀ {Ls Ms:List (List (Option Nat))},SameLv Ls Ms->Ls.length=Ms.length
 | [],[],_=>rfl
 | _::_,_::_,h=>by simp only [List.length_cons,SameLv.len h.2]
 | [],_::_,h=>h.elim
 | _::_,[],h=>h.elim
theorem SameLv.at:∀ {Ls Ms:List (List (Option Nat))} (i:Nat),SameLv Ls Ms->i<Ls.length->SamL (Ls.getD i []) (Ms.getD i [])
 | [],[],i,_,hi=>by simp at hi
 | L::Ls,M::Ms,0,h,hi=>h.1
 | L::Ls,M::Ms,i+1,h,hi=>SameLv.at i h.2 (by simpa using hi)
 | [],_::_,_,h,_=>h.elim
 | _::_,[],_,h,_=>h.elim
theorem refF_len (xs:List (Option Nat)):∀ (k w:Nat),(refF xs k w).length<=k+1
 | 0,w=>by simp [refF]
 | k+1,w=>by
  rw [refF]
  split
  ·simp
  ·have:=refF_len xs k (2*w)
   simp only [List.length_cons];omega
theorem refLv_len (xs:List (Option Nat)) (b:Nat):(refLv xs b).length<=14:=by
 unfold refLv
 split
 ·simp
 ·exact refF_len xs 13 b
theorem lvCells_get {Ls:List (List (Option Nat))} {i:Nat} (hi:i<Ls.length):(lvCells Ls).getD i .top=AV.list ((Ls.getD i []).length / 2) (flosL (Ls.getD i [])):=by
 rw [lvCells,List.getD_eq_getElem?_getD,List.getD_eq_getElem?_getD,List.getElem?_map,List.getElem?_eq_getElem hi];rfl
theorem lvs_of {Ls:List (List (Option Nat))} (h:Ls.length<=5000) (h2:∀ i,i<Ls.length->(Ls.getD i []).length%2=0/\(Ls.getD i []).length<=10000):Lvs Ls.length (lvCells Ls):=by
 refine ⟨h,by simp [lvCells],fun c hc=>?_⟩
 obtain ⟨i,hi,rfl⟩:=List.mem_iff_getElem.1 hc
 have hi':i<Ls.length:=by simpa [lvCells] using hi
 have e:=lvCells_get hi'
 rw [List.getD_eq_getElem?_getD,List.getElem?_eq_getElem hi] at e
 obtain ⟨e1,e2⟩:=h2 i hi'
 refine ⟨_,_,e,?_,by omega⟩
 have:2*((Ls.getD i []).length / 2)=(Ls.getD i []).length:=by omega
 rw [this]
 exact Flos_L (by omega)
section
variable {Ls Ms : List (List (Option Nat))} (h : SameLv Ls Ms)
include h
theorem SameLv.lvsL (hn:Ls.length<=5000):Lvs Ls.length (lvCells Ls):=lvs_of hn fun i hi=>⟨(SameLv.at i h hi).two,(SameLv.at i h hi).few⟩
theorem SameLv.lvsM (hn:Ms.length<=5000):Lvs Ms.length (lvCells Ms):=lvs_of hn fun i hi=>by
 have:=SameLv.at i h (by rw [h.len];exact hi)
 rw [←this.len];exact ⟨this.two,this.few⟩
end
end Go.Abs
end
noncomputable section
namespace Go.Abs
open Go.Proofs Classical Go.Abs.Fin
def finR (L:List (Option Nat)):Bool:=(List.range L.length).all fun j=>finB (L.getD j none)
def keysEq (L M:List (Option Nat)):Bool:=(List.range M.length).all fun j=>decide (fkey (M.getD j none)=fkey (L.getD j none))
def lensEq (W:List (List (Option Nat))) (m:Nat) (ls:List AV):Bool:=(List.range m).all fun i=>decide ((W.getD i []).length=(lvAt ls i).length)
def finsL (m:Nat) (ls:List AV):Bool:=(List.range m).all fun i=>finR (lvAt ls i)
def sameK (W:List (List (Option Nat))) (m:Nat) (ls:List AV):Bool:=(List.range m).all fun i=>keysEq (W.getD i []) (lvAt ls i)
def treeErr (W:List (List (Option Nat))) (m:Nat) (ls:List AV):Int:=
 if W.length=m then (if lensEq W m ls=true then (if finsL m ls=true then (if sameK W m ls=true then 0 else 21) else 1) else 2) else 2
def chkT (n:Nat) (xs:List (Option Nat)) (b:Int) (m:Nat) (ls:List AV):Int:=
 if sampErr n xs=0 then (if b<1\/b>256 then 3 else treeErr (refLv xs b.toNat) m ls) else sampErr n xs
theorem all_range {n:Nat} {p:Nat->Bool}:(List.range n).all p=true↔∀ i,i<n->p i=true:=by
 rw [List.all_eq_true]
 exact ⟨fun h i hi=>h i (List.mem_range.2 hi),fun h i hi=>h i (List.mem_range.1 hi)⟩
theorem all_range_congr {n:Nat} {p q:Nat->Bool} (h:∀ i,i<n->p i=q i):(List.range n).all p=(List.range n).all q:=by
 rw [Bool.eq_iff_iff,all_range,all_range]
 exact ⟨fun hp i hi=>by rw [←h i hi];exact hp i hi,fun hp i hi=>by rw [h i hi];exact hp i hi⟩
theorem finR_iff {L:List (Option Nat)}:finR L=true↔FinL L:=by
 unfold finR
 rw [all_range]
 exact ⟨fun h x hx=>by obtain ⟨k,hk,rfl⟩:=mem_getD hx;exact h k hk,fun h i hi=>h.get hi⟩
theorem sameF_keys {L M:List (Option Nat)} (hl:L.length=M.length) (hL:FinL L) (hM:FinL M):sameF L M=keysEq L M:=by
 unfold sameF keysEq
 rw [beq_iff_eq.2 hl,Bool.true_and,hl]
 refine all_range_congr fun i hi=>?_
 rw [beqk (hL.get (by omega)) (hM.get hi)]
 exact decide_eq_decide.2 ⟨Eq.symm,Eq.symm⟩
theorem keysEq_congr {L L' M:List (Option Nat)} (h:SamL L L') (hl:L.length=M.length):keysEq L M=keysEq L' M:=by
 unfold keysEq
 refine all_range_congr fun i hi=>?_
 rw [h.key i (by omega)]
theorem treeErr_congr {W W':List (List (Option Nat))} {m:Nat} {ls:List AV} (h:SameLv W W'):treeErr W m ls=treeErr W' m ls:=by
 unfold treeErr
 rw [h.len]
 by_cases hm:W'.length=m
 case neg=>rw [if_neg hm,if_neg hm]
 rw [if_pos hm,if_pos hm]
 have hW:W.length=m:=by rw [h.len];exact hm
 have e1:lensEq W m ls=lensEq W' m ls:=by
  unfold lensEq
  refine all_range_congr fun i hi=>?_
  rw [(SameLv.at i h (by omega)).len]
 rw [e1]
 by_cases h1:lensEq W' m ls=true
 case neg=>rw [if_neg h1,if_neg h1]
 rw [if_pos h1,if_pos h1]
 have e2:sameK W m ls=sameK W' m ls:=by
  unfold sameK
  refine all_range_congr fun i hi=>?_
  have hs:=SameLv.at i h (by omega)
  have:=of_decide_eq_true (all_range.1 (e1.trans h1) i hi)
  exact keysEq_congr hs this
 rw [e2]
theorem lvAt_of {ls:List AV} {i k:Nat} {cs:List AV} (h:ls.getD i .top=.list k cs):lvAt ls i=fO cs:=by unfold lvAt;rw [h]
theorem lvAt_cells {Ls:List (List (Option Nat))} {i:Nat} (hi:i<Ls.length):lvAt (lvCells Ls) i=Ls.getD i []:=by
 rw [lvAt_of (lvCells_get hi),flosOf_L]
theorem run_29' {n m N:Nat} {cs ls:List AV} {b:Int} (h:Flos n cs) (h':Lvs m ls) (hN:n+m+5020<N):
  (fsM mzM waysQ N 12).call (List RLeaf) 29 [.ofB (.list n cs),.s (.agg [.b (.int .i64 b),.b (.list m ls)])] [] (resK [false])=
  some [.v (.int .i64 (chkT n (fO cs) b m ls))]:=by
 rw [run_29]
 have hl:=h'.2.1
 have hm:=h'.1
 simp only [shut_eq,guardO_dec,h,if_true,condO_beq,condO_bne]
 unfold chkT
 by_cases hs:sampErr n (fO cs)=0
 case neg=>rw [if_neg hs,if_neg hs,if_neg hs]
 rw [if_pos hs,if_pos hs]
 by_cases hb:b<1\/b>256
 case pos=>simp only [hb,if_true];rfl
 obtain ⟨hn,hf⟩:=samp_all hs
 have hxl:=h.len
 have hsame:=levels_same (xs:=fO cs) (b:=b.toNat) (by omega) (by omega) hf
 have g1:(n<=5000/\(1:Int)<=b/\b<=10000)=True:=eq_true ⟨by omega,by omega,by omega⟩
 have hwl:=refLv_len (fO cs) b.toNat
 simp only [hb,if_false,if_true,true_and,g1]
 generalize refLv (fO cs) b.toNat=W at hsame hwl
 have hLW:=hsame.lvsM (by omega)
 unfold treeErr
 by_cases hWm:W.length=m
 case neg=>rw [if_neg (by omega),if_neg hWm]
 rw [if_pos (by omega),if_pos hWm]
 subst hWm
 refine loopC_rule (fun k (r:Int->Int->Nat->List AV->Nat->List AV->Int->Nat->List AV->Option (List RLeaf))=>∀ (i:Nat),i+k=W.length->(∀ t,t<i->(W.getD t []).length=(lvAt ls t).length)->
  r (i:Int) b W.length ls 0 [] b W.length (lvCells W)=some [.v (.int .i64 (if lensEq W W.length ls=true then (if finsL W.length ls=true then (if sameK W W.length ls=true then 0 else 21) else 1) else 2))]) ?_ N W.length (by omega) 0 (by omega) (fun t ht=>by omega)
 intro k r ih i hi hlen
 by_cases hk:i<W.length
 ·obtain ⟨q,ds,e1,e2,e3⟩:=h'.get hk
  have eL:=lvAt_of e1
  have eW:=lvCells_get hk
  have p0:0<ls.length:=by omega
  have p1:0<(lvCells W).length:=by rw [hLW.2.1];omega
  have wi:IntKind.i64.wrap ((i:Int)+1)=((i+1:Nat):Int):=by rw [wrap64]<;>omega
  have hev:(W.getD i []).length%2=0:=by
   have:=SameLv.at i hsame (by rw [hsame.len];exact hk)
   rw [←this.len];exact this.two
  have hle:=e2.len
  simp only [condO_dec,condO_bne,guardO_dec,Int.ofNat_lt,hk,p0,p1,if_true,Int.natCast_nonneg,true_and,and_true,Int.toNat_natCast,Nat.mul_one,e1,eW,asList_list,bindO_ok,Int.ofNat_inj,wi]
  by_cases hq:(W.getD i []).length / 2=q
  ·rw [if_pos hq]
   exact ih (k-1) (by omega) (i+1) (by omega) fun t ht=>by
    by_cases hti:t=i
    ·subst hti;rw [eL,hle];omega
    ·exact hlen t (by omega)
  ·rw [if_neg hq,if_neg]
   intro hc
   have:=of_decide_eq_true (all_range.1 hc i hk)
   rw [eL,hle] at this
   omega
 have hLen:lensEq W W.length ls=true:=all_range.2 fun i hi=>decide_eq_true (hlen i (by omega))
 have hik:¬ ((i:Int)<(W.length:Int)):=by omega
 rw [if_pos hLen]
 simp only [condO_dec,hik,if_false]
 clear ih hlen
 refine loopC_rule (fun k (r:Int->Int->Nat->List AV->Nat->List AV->Int->Nat->List AV->Option (List RLeaf))=>∀ (i:Nat),i+k=W.length->(∀ t,t<i->FinL (lvAt ls t))->
  r (i:Int) b W.length ls 0 [] b W.length (lvCells W)=some [.v (.int .i64 (if finsL W.length ls=true then (if sameK W W.length ls=true then 0 else 21) else 1))]) ?_ N W.length (by omega) 0 (by omega) (fun t ht=>by omega)
 intro k r ih i hi hfin
 by_cases hk:i<W.length
 ·obtain ⟨q,ds,e1,e2,e3⟩:=h'.get hk
  have eL:=lvAt_of e1
  have p0:0<ls.length:=by omega
  have wi:IntKind.i64.wrap ((i:Int)+1)=((i+1:Nat):Int):=by rw [wrap64]<;>omega
  have hle:=e2.len
  have hdl:=e2.2.2
  simp only [condO_dec,Int.ofNat_lt,hk,if_true]
  refine loopC_rule (fun k2 (r2:Int->Int->Int->Nat->List AV->Nat->List AV->Int->Nat->List AV->Option (List RLeaf))=>∀ (j:Nat),j+k2=q->(∀ t,t<2*j->finB ((fO ds).getD t none)=true)->
   r2 (i:Int) (j:Int) b W.length ls 0 [] b W.length (lvCells W)=some [.v (.int .i64 (if finsL W.length ls=true then (if sameK W W.length ls=true then 0 else 21) else 1))]) ?_ N q (by omega) 0 (by omega) (fun t ht=>by omega)
  intro k2 r2 ih2 j hj hfj
  simp only [joinC_pos (show 0<N by omega),condO_dec,condO_not,guardO_dec,Int.ofNat_lt,hk,p0,if_true,Int.natCast_nonneg,true_and,and_true,Int.toNat_natCast,Nat.mul_one,e1,asList_list,bindO_ok]
  by_cases hk2:j<q
  ·have ge1:=e2.get (i:=2*j) (by omega)
   have ge2:=e2.get (i:=2*j+1) (by omega)
   have wj:IntKind.i64.wrap ((j:Int)+1)=((j+1:Nat):Int):=by rw [wrap64]<;>omega
   have q0:0<ds.length:=by omega
   have hcm:j*2=2*j:=by omega
   simp only [hk2,q0,if_true,true_and,and_true,hcm,Nat.add_zero,ge1,ge2,bindO_ok,wj]
   cases hf1:finB ((fO ds).getD (2*j) none) with
   | false=>
    have hnf:¬ finsL W.length ls=true:=fun hc=>by
     have:=finR_iff.1 (all_range.1 hc i hk)
     rw [eL] at this
     rw [this.get (by omega)] at hf1;cases hf1
    rw [if_neg hnf];rfl
   | true=>
    cases hf2:finB ((fO ds).getD (2*j+1) none) with
    | false=>
     have hnf:¬ finsL W.length ls=true:=fun hc=>by
      have:=finR_iff.1 (all_range.1 hc i hk)
      rw [eL] at this
      rw [this.get (by omega)] at hf2;cases hf2
     rw [if_neg hnf];rfl
    | true=>
     exact ih2 (k2-1) (by omega) (j+1) (by omega) fun t ht=>by
      by_cases h1:t=2*j
      ·subst h1;exact hf1
      by_cases h2:t=2*j+1
      ·subst h2;exact hf2
      exact hfj t (by omega)
  ·simp only [hk2,if_false,wi]
   refine ih (k-1) (by omega) (i+1) (by omega) fun t ht=>?_
   by_cases hti:t=i
   ·subst hti
    rw [eL]
    intro x hx
    obtain ⟨p,hp,rfl⟩:=mem_getD hx
    exact hfj p (by omega)
   ·exact hfin t (by omega)
 ·have hF:finsL W.length ls=true:=all_range.2 fun t ht=>finR_iff.2 (hfin t (by omega))
  have hS:sameT W.length (lvCells W) ls=sameK W W.length ls:=by
   unfold sameT sameK
   refine all_range_congr fun t ht=>?_
   rw [lvAt_cells ht]
   have hs:=SameLv.at t hsame (by rw [hsame.len];exact ht)
   exact sameF_keys (of_decide_eq_true (all_range.1 hLen t ht)) hs.finM (hfin t (by omega))
  have g2:(Lvs W.length (lvCells W)/\Lvs W.length ls)=True:=eq_true ⟨hLW,h'⟩
  rw [if_pos hF]
  simp only [condO_dec,condO_not,guardO_dec,Int.ofNat_lt,hk,if_false,g2,if_true,decide_true,Bool.true_and,hS]
  cases sameK W W.length ls<;>rfl
end Go.Abs
end
noncomputable section
namespace Go.Abs
open Go.Proofs Classical Go.Abs.Fin
def restE (W:List (List (Option Nat))) (m:Nat) (ls:List AV) (pr:Int) (i:Nat):Int:=
 if (((List.range m).drop i).all fun t=>finR (lvAt ls t))=true then (if pr=0/\(((List.range m).drop i).all fun t=>keysEq (W.getD t []) (lvAt ls t))=true then 0 else 21) else 1
def restJ (W:List (List (Option Nat))) (m:Nat) (ls:List AV) (pr:Int) (i j:Nat) (L M:List (Option Nat)):Int:=
 if (((List.range M.length).drop (2*j)).all fun t=>finB (M.getD t none))=true/\(((List.range m).drop (i+1)).all fun t=>finR (lvAt ls t))=true then
  (if pr=0/\(((List.range M.length).drop (2*j)).all fun t=>decide (fkey (M.getD t none)=fkey (L.getD t none)))=true/\(((List.range m).drop (i+1)).all fun t=>keysEq (W.getD t []) (lvAt ls t))=true then 0 else 21) else 1
theorem run_27' {n m N:Nat} {cs ls:List AV} {b:Int} (h:Flos n cs) (h':Lvs m ls) (hN:n+m+5020<N):
  (fsM mzK waysQ N 12).call (List RLeaf) 27 [.ofB (.list n cs),.s (.agg [.b (.int .i64 b),.b (.list m ls)])] [] (resK [false])=
  some [.v (.int .i64 (chkT n (fO cs) b m ls))]:=by
 rw [run_27]
 have hl:=h'.2.1
 have hm:=h'.1
 simp only [shut_eq,guardO_dec,h,if_true,put2,ints2,firstNZ_2,condO_beq,condO_bne]
 unfold chkT
 by_cases hs:sampErr n (fO cs)=0
 case neg=>rw [if_neg hs,if_neg hs,if_neg hs]
 rw [if_pos hs,if_pos hs]
 by_cases hb:b<1\/b>256
 case pos=>simp only [hb,if_true];rfl
 obtain ⟨hn,hf⟩:=samp_all hs
 have hxl:=h.len
 have hsame:=levels_same (xs:=fO cs) (b:=b.toNat) (by omega) (by omega) hf
 have g1:(n<=5000/\FinL (fO cs)/\(1:Int)<=b/\b<=100000)=True:=eq_true ⟨by omega,hf,by omega,by omega⟩
 have hwl:(levelsF (fO cs) b.toNat).length<=14:=by rw [hsame.len];exact refLv_len _ _
 rw [←treeErr_congr hsame]
 simp only [hb,if_false,if_true,true_and,g1]
 generalize levelsF (fO cs) b.toNat=W at hsame hwl
 generalize refLv (fO cs) b.toNat=W' at hsame
 have hLW:=hsame.lvsL (by omega)
 unfold treeErr
 by_cases hWm:W.length=m
 case neg=>rw [if_neg (by omega),if_neg hWm]
 rw [if_pos (by omega),if_pos hWm]
 subst hWm
 generalize putCells (zrow (ofV (Go.Value.int IntKind.i64 0)).cells 2) 0 _=pc
 refine loopC_rule (fun k (r:Nat->List AV->Nat->List AV->Int->Int->Int->Nat->List AV->Nat->List AV->Option (List RLeaf))=>∀ (i:Nat) (x9:Nat) (x10:List AV),i+k=W.length->(∀ t,t<i->(W.getD t []).length=(lvAt ls t).length)->
  r W.length (lvCells W) W.length (lvCells W) (W.length:Int) (i:Int) b W.length ls x9 x10=some [.v (.int .i64 (if lensEq W W.length ls=true then (if finsL W.length ls=true then (if sameK W W.length ls=true then 0 else 21) else 1) else 2))]) ?_ N W.length (by omega) 0 _ _ (by omega) (fun t ht=>by omega)
 intro k r ih i x9 x10 hi hlen
 by_cases hk:i<W.length
 ·obtain ⟨q,ds,e1,e2,e3⟩:=h'.get hk
  have eL:=lvAt_of e1
  have eW:=lvCells_get hk
  have p0:0<ls.length:=by omega
  have p1:0<(lvCells W).length:=by rw [hLW.2.1];omega
  have wi:IntKind.i64.wrap ((i:Int)+1)=((i+1:Nat):Int):=by rw [wrap64]<;>omega
  have hev:(W.getD i []).length%2=0:=(SameLv.at i hsame hk).two
  have hle:=e2.len
  simp only [condO_dec,condO_bne,guardO_dec,Int.ofNat_lt,hk,p0,p1,if_true,Int.natCast_nonneg,true_and,and_true,Int.toNat_natCast,Nat.mul_one,e1,eW,asList_list,bindO_ok,Int.ofNat_inj,wi]
  by_cases hq:q=(W.getD i []).length / 2
  ·rw [if_pos hq]
   exact ih (k-1) (by omega) (i+1) _ _ (by omega) fun t ht=>by
    by_cases hti:t=i
    ·subst hti;rw [eL,hle];omega
    ·exact hlen t (by omega)
  ·rw [if_neg hq,if_neg]
   intro hc
   have:=of_decide_eq_true (all_range.1 hc i hk)
   rw [eL,hle] at this
   omega
 have hLen:lensEq W W.length ls=true:=all_range.2 fun i hi=>decide_eq_true (hlen i (by omega))
 have hik:¬ ((i:Int)<(W.length:Int)):=by omega
 rw [if_pos hLen]
 simp only [condO_dec,hik,if_false]
 have hend:(if finsL W.length ls=true then (if sameK W W.length ls=true then (0:Int) else 21) else 1)=restE W W.length ls 0 0:=by
  unfold restE finsL sameK;simp only [List.drop_zero,true_and]
 rw [hend]
 clear ih hlen hend
 refine loopC_rule (fun k (r:Int->Nat->List AV->Int->Int->Int->Nat->List AV->Nat->List AV->Option (List RLeaf))=>∀ (i:Nat) (pr:Int) (x8:Nat) (x9:List AV),i+k=W.length->pr=0\/pr=21->
  r pr W.length (lvCells W) (W.length:Int) (i:Int) b W.length ls x8 x9=some [.v (.int .i64 (restE W W.length ls pr i))]) ?_ N W.length (by omega) 0 0 _ _ (by omega) (.inl rfl)
 intro k r ih i pr x8 x9 hi hpr
 by_cases hk:i<W.length
 ·obtain ⟨q,ds,e1,e2,e3⟩:=h'.get hk
  have eL:=lvAt_of e1
  have eW:=lvCells_get hk
  have p0:0<ls.length:=by omega
  have p1:0<(lvCells W).length:=by rw [hLW.2.1];omega
  have wi:IntKind.i64.wrap ((i:Int)+1)=((i+1:Nat):Int):=by rw [wrap64]<;>omega
  have hS:=SameLv.at i hsame hk
  have hev:=hS.two
  have hle:=e2.len
  have hdl:=e2.2.2
  have hLe:=of_decide_eq_true (all_range.1 hLen i hk)
  rw [eL,hle] at hLe
  have hfW:=hS.finL
  simp only [condO_dec,guardO_dec,Int.ofNat_lt,hk,p0,p1,if_true,Int.natCast_nonneg,true_and,and_true,Int.toNat_natCast,Nat.mul_one,eW,asList_list,bindO_ok]
  have hst:restE W W.length ls pr i=restJ W W.length ls pr i 0 (W.getD i []) (fO ds):=by
   unfold restE restJ
   rw [range_all_drop hk,range_all_drop hk,eL]
   unfold finR keysEq
   simp only [Nat.mul_zero,List.drop_zero,Bool.and_eq_true]
  rw [hst,show (W.getD i []).length / 2=q by omega]
  have hWl:(flosL (W.getD i [])).length=2*q:=by rw [flosL_len];exact hLe
  generalize W.getD i []=L at hLe hfW hWl
  refine loopC_rule (fun k2 (r2:Int->Int->Nat->List AV->Int->Int->Nat->List AV->Int->Int->Int->Nat->List AV->Nat->List AV->Option (List RLeaf))=>∀ (j:Nat) (pr:Int),j+k2=q->pr=0\/pr=21->
   r2 pr (i:Int) W.length (lvCells W) (W.length:Int) (i:Int) q (flosL L) (q:Int) (j:Int) b W.length ls x8 x9=some [.v (.int .i64 (restJ W W.length ls pr i j L (fO ds)))]) ?_ N q (by omega) 0 pr (by omega) hpr
  intro k2 r2 ih2 j pr hj hpr
  by_cases hk2:j<q
  ·have ge1:=e2.get (i:=2*j) (by omega)
   have ge2:=e2.get (i:=2*j+1) (by omega)
   have gw1:=flosL_get (xs:=L) (i:=2*j) (by omega)
   have gw2:=flosL_get (xs:=L) (i:=2*j+1) (by omega)
   have wj:IntKind.i64.wrap ((j:Int)+1)=((j+1:Nat):Int):=by rw [wrap64]<;>omega
   have q0:0<ds.length:=by omega
   have q1:(2*j+2<=ds.length)=True:=eq_true (by omega)
   have q2:0<(flosL L).length:=by omega
   have q3:(2*j+2<=(flosL L).length)=True:=eq_true (by omega)
   have hcm:j*2=2*j:=by omega
   have hfw1:=hfW.get (i:=2*j) (by omega)
   have hfw2:=hfW.get (i:=2*j+1) (by omega)
   have es:restJ W W.length ls pr i j L (fO ds)=if finB ((fO ds).getD (2*j) none)=true/\finB ((fO ds).getD (2*j+1) none)=true then
     restJ W W.length ls (if pr=0/\fkey ((fO ds).getD (2*j) none)=fkey (L.getD (2*j) none)/\fkey ((fO ds).getD (2*j+1) none)=fkey (L.getD (2*j+1) none) then 0 else 21) i (j+1) L (fO ds) else 1:=by
    unfold restJ
    rw [hle,range_all_drop (show 2*j<2*q by omega),range_all_drop (show 2*j+1<2*q by omega),range_all_drop (show 2*j<2*q by omega),range_all_drop (show 2*j+1<2*q by omega),show 2*j+1+1=2*(j+1) by omega]
    simp only [Bool.and_eq_true,decide_eq_true_eq]
    by_cases h1:finB ((fO ds).getD (2*j) none)=true/\finB ((fO ds).getD (2*j+1) none)=true
    ·rw [if_pos h1]
     simp only [h1.1,h1.2,true_and]
     split
     ·by_cases h2:pr=0/\fkey ((fO ds).getD (2*j) none)=fkey (L.getD (2*j) none)/\fkey ((fO ds).getD (2*j+1) none)=fkey (L.getD (2*j+1) none)
      ·rw [if_pos h2];simp only [h2.1,h2.2.1,h2.2.2,true_and]
      ·rw [if_neg h2,if_neg (fun hc=>h2 ⟨hc.1,hc.2.1.1,hc.2.1.2.1⟩),if_neg (fun hc=>by cases hc.1)]
     ·rfl
    ·rw [if_neg h1,if_neg (fun hc=>h1 ⟨hc.1.1,hc.1.2.1⟩)]
   rw [es]
   simp only [condO_dec,condO_not,guardO_dec,Int.ofNat_lt,hk,hk2,p0,q0,q1,q2,q3,if_true,Int.natCast_nonneg,true_and,and_true,Int.toNat_natCast,Nat.mul_one,hcm,e1,asList_list,ge1,ge2,gw1,gw2,bindO_ok,wj]
   cases hf1:finB ((fO ds).getD (2*j) none) with
   | false=>rw [if_neg (show ¬(false=true/\finB ((fO ds).getD (2*j+1) none)=true) from fun h=>by cases h.1)];rfl
   | true=>
    cases hf2:finB ((fO ds).getD (2*j+1) none) with
    | false=>rw [if_neg (show ¬(true=true/\false=true) from fun h=>by cases h.2)];rfl
    | true=>
     rw [if_pos (show true=true/\true=true from ⟨rfl,rfl⟩)]
     simp only [beqk hf1 hfw1,beqk hf2 hfw2,condO_tx,condO_fx,bindO_ok,Bool.not_true,put2,ints2,firstNZ_2,if_true,Bool.and_true]
     refine Eq.trans ?_ (ih2 (k2-1) (by omega) (j+1) _ (by omega) (by split<;>simp))
     congr 1
     by_cases h1:fkey ((fO ds).getD (2*j) none)=fkey (L.getD (2*j) none)<;>by_cases h2:fkey ((fO ds).getD (2*j+1) none)=fkey (L.getD (2*j+1) none)<;>rcases hpr with rfl | rfl<;>simp only [h1,h2,decide_true,decide_false,Bool.and_true,Bool.and_false,Bool.true_and,Bool.false_and,Bool.not_true,Bool.not_false,Bool.false_eq_true,if_true,if_false,and_true,and_false,and_self]<;>rfl
  ·have hz:(List.range (fO ds).length).drop (2*j)=[]:=by rw [List.drop_eq_nil_iff,List.length_range];omega
   simp only [condO_dec,Int.ofNat_lt,hk2,if_false,wi]
   rw [ih (k-1) (by omega) (i+1) pr _ _ (by omega) hpr]
   unfold restE restJ
   simp only [hz,List.all_nil,true_and]
 ·have hz:(List.range W.length).drop i=[]:=by rw [List.drop_eq_nil_iff,List.length_range];omega
  simp only [condO_dec,Int.ofNat_lt,hk,if_false]
  unfold restE
  simp only [hz,List.all_nil,if_true,and_true]
  rcases hpr with rfl | rfl<;>rfl
end Go.Abs
end
set_option maxRecDepth 100000
noncomputable section
namespace Go.Abs
open Go.Proofs Classical
def eShortT:Ent:=fun args' R K=>match args' with
 | [.agg [.int .i64 b,.list m ls]]=>gO (S_ (decide (LvsW m ls))) (K [.v (.bool (S_ (shortT m ls)))])
 | _=>none
theorem eShortT_18:EntOk Tryz.prog 18 eShortT:=by
 intro args' R K r ha h
 unfold eShortT at h
 split at h
 ·rename_i b m ls
  obtain ⟨h1,h2⟩:=guardO_some h
  rw [shut_eq] at h1
  have h1':=of_decide_eq_true h1
  refine ⟨[.v (.bool (shortT m ls))],fun _ _=>by simp only [eShortT,shut_eq,decide_eq_true h1',gO],?_,con_of mzK_ok (W:=waysQ) (N:=m+1) (k:=12) (ms:=[false]) ?_ ha trivial⟩
  ·intro l hl;rcases List.mem_cons.1 hl with rfl | hl
   ·exact leaf_bool
   cases hl
  ·exact run_18' h1'
 ·cases h
def eChkT:Ent:=fun args' R K=>match args' with
 | [.list n cs,.agg [.int .i64 b,.list m ls]]=>gO (S_ (decide (Flos n cs/\Lvs m ls))) (K [.v (.int .i64 (S_ (chkT n (fO cs) b m ls)))])
 | _=>none
theorem eChkT_29:EntOk Tryz.prog 29 eChkT:=by
 intro args' R K r ha h
 unfold eChkT at h
 split at h
 ·rename_i n cs b m ls
  obtain ⟨h1,h2⟩:=guardO_some h
  rw [shut_eq] at h1
  have h1':=of_decide_eq_true h1
  refine ⟨[.v (.int .i64 (chkT n (fO cs) b m ls))],fun _ _=>by simp only [eChkT,shut_eq,decide_eq_true h1',gO],?_,con_of mzM_ok (W:=waysQ) (N:=n+m+5021) (k:=12) (ms:=[false]) ?_ ha trivial⟩
  ·intro l hl;rcases List.mem_cons.1 hl with rfl | hl
   ·exact leaf_int
   cases hl
  ·exact run_29' h1'.1 h1'.2 (by omega)
 ·cases h
theorem eChkT_27:EntOk Tryz.prog 27 eChkT:=by
 intro args' R K r ha h
 unfold eChkT at h
 split at h
 ·rename_i n cs b m ls
  obtain ⟨h1,h2⟩:=guardO_some h
  rw [shut_eq] at h1
  have h1':=of_decide_eq_true h1
  refine ⟨[.v (.int .i64 (chkT n (fO cs) b m ls))],fun _ _=>by simp only [eChkT,shut_eq,decide_eq_true h1',gO],?_,con_of mzK_ok (W:=waysQ) (N:=n+m+5021) (k:=12) (ms:=[false]) ?_ ha trivial⟩
  ·intro l hl;rcases List.mem_cons.1 hl with rfl | hl
   ·exact leaf_int
   cases hl
  ·exact run_27' h1'.1 h1'.2 (by omega)
 ·cases h
end Go.Abs
end
