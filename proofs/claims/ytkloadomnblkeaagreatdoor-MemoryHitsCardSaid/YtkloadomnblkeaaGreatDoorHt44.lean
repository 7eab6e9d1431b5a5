/- Part 44 of the library of the proof: an abstract run of the program. -/
import Derived.Test.YtkloadomnblkeaaGreatDoorHt24
import Derived.Test.YtkloadomnblkeaaGreatDoorHt38
import Derived.Test.YtkloadomnblkeaaGreatDoorHt39
import Derived.Test.YtkloadomnblkeaaGreatDoorHt41
set_option linter.unusedVariables false
set_option linter.unusedSimpArgs false

set_option maxRecDepth 100000
noncomputable section
namespace Go.Abs
open Go.Proofs Classical Go.Abs.Fin
def tH:Nat->Nat->Nat->List Bool->Nat × Nat
 | _,l,k,[]=>(l,k)
 | r,l,k,h::hs=>if h=true then tH (r+1) (max l (r+1)) (k+1) hs else tH 0 (max l 0) k hs
theorem tI:∀ (hs:List Bool) (i f a b k:Nat),f<=i->a<=b->(tH (i-f) (b-a) k hs).1=(eE i f a b hs).2-(eE i f a b hs).1
 | [],i,f,a,b,k,_,_=>rfl
 | true::hs,i,f,a,b,k,h1,h2=>by
  rw [tH,if_pos rfl,eE,if_neg (by decide),show i-f+1=i+1-f by omega]
  split
  ·rename_i h
   rw [show max (b-a) (i+1-f)=i+1-f by omega]
   exact tI hs (i+1) f f (i+1) (k+1) (by omega) (by omega)
  ·rename_i h
   rw [show max (b-a) (i+1-f)=b-a by omega]
   exact tI hs (i+1) f a b (k+1) (by omega) (by omega)
 | false::hs,i,f,a,b,k,h1,h2=>by
  rw [tH,if_neg (by decide),eE,if_pos rfl,Nat.max_eq_left (Nat.zero_le _)]
  have:=tI hs (i+1) (i+1) a b k (Nat.le_refl _) h2
  rwa [Nat.sub_self] at this
theorem zU:∀ (hs:List Bool) (r l k:Nat),(tH r l k hs).2=k+hs.countP id
 | [],r,l,k=>rfl
 | true::hs,r,l,k=>by
  rw [tH,if_pos rfl,zU hs,List.countP_cons];simp;omega
 | false::hs,r,l,k=>by
  rw [tH,if_neg (by decide),zU hs,List.countP_cons];simp
theorem qh (p:Nat->Bool):∀ (hs:List Bool) (i f a b:Nat),(∀ j,f<=j->j<i->p j=true)->(∀ j,a<=j->j<b->p j=true)->(∀ t x,hs[t]?=some x->p (i+t)=x)->
  ∀ j,(eE i f a b hs).1<=j->j<(eE i f a b hs).2->p j=true
 | [],i,f,a,b,_,h2,_=>h2
 | x::hs,i,f,a,b,h1,h2,h3=>by
  have V5:∀ t y,hs[t]?=some y->p (i+1+t)=y:=fun t y h=>by
   have:=h3 (t+1) y (by simpa using h)
   rwa [show i+(t+1)=i+1+t by omega] at this
  have h0:p i=x:=h3 0 x rfl
  rw [eE]
  split
  ·exact qh p hs (i+1) (i+1) a b (fun j a b=>by omega) h2 V5
  ·rename_i hx
   have hx:x=true:=by simpa using hx
   have bM:∀ j,f<=j->j<i+1->p j=true:=fun j a b=>by
    by_cases e:j=i
    ·rw [e,h0,hx]
    ·exact h1 j a (by omega)
   split
   ·exact qh p hs (i+1) f f (i+1) bM bM V5
   ·exact qh p hs (i+1) f a b bM h2 V5
theorem tJ:∀ (hs:List Bool) (i f a b n:Nat),f<=i->a<=b->b<=n->i+hs.length<=n->(eE i f a b hs).1<=(eE i f a b hs).2/\(eE i f a b hs).2<=n
 | [],i,f,a,b,n,_,h2,h3,_=>⟨h2,h3⟩
 | x::hs,i,f,a,b,n,h1,h2,h3,h4=>by
  simp only [List.length_cons] at h4
  rw [eE]
  split
  ·exact tJ hs (i+1) (i+1) a b n (Nat.le_refl _) h2 h3 (by omega)
  ·split
   ·exact tJ hs (i+1) f f (i+1) n (by omega) (by omega) (by omega) (by omega)
   ·exact tJ hs (i+1) f a b n (by omega) h2 h3 (by omega)
theorem GP {o:Option Nat} (ho:aJ o=true):∀ (xs:List (Option Nat)) (a b:Int),cG xs->lH [o] [a,b] xs=[a+((xs.length-(cj o xs).countP id:Nat):Int),b+((cj o xs).countP id:Nat)]
 | [],a,b,_=>by simp [lH,cj]
 | x::xs,a,b,hf=>by
  have hx:=hf x List.mem_cons_self
  have ih:=fun a b=>GP ho xs a b fun y hy=>hf y (List.mem_cons_of_mem _ hy)
  have hg:geO x o=decide (aU o<=aU x):=nm hx ho
  have hle:(cj o xs).countP id<=xs.length:=by
   have:=List.countP_le_length (p:=id) (l:=cj o xs)
   rwa [mH] at this
  have hh:cj o (x::xs)=decide (aU o<=aU x)::cj o xs:=rfl
  rw [hh,List.countP_cons,lH]
  by_cases h:aU o<=aU x
  ·have hb:nV x [o]=1:=by simp [nV,hg,h]
   rw [hb,show ([a,b].set 1 ([a,b].getD 1 0+1))=[a,b+1] from rfl,ih,decide_eq_true h]
   simp only [id,if_true,List.length_cons]
   congr 1
   ·congr 1;omega
   ·congr 1;omega
  ·have hb:nV x [o]=0:=by simp [nV,hg,h]
   rw [hb,show ([a,b].set 0 ([a,b].getD 0 0+1))=[a+1,b] from rfl,ih,decide_eq_false h]
   simp only [id,Bool.false_eq_true,if_false,List.length_cons,Nat.add_zero]
   congr 1;omega
theorem oX (p:Nat->Bool):∀ (k i:Nat),(aF p k i=-1/\∀ j,i<=j->j<i+k->p j=false)\/∃ q:Nat,aF p k i=(q:Int)/\i<=q/\q<i+k/\p q=true/\∀ j,i<=j->j<q->p j=false
 | 0,i=>.inl ⟨rfl,fun j a b=>by omega⟩
 | k+1,i=>by
  rw [aF]
  by_cases h:p i=true
  ·rw [if_pos h];exact .inr ⟨i,rfl,Nat.le_refl _,by omega,h,fun j a b=>by omega⟩
  ·rw [if_neg h]
   have h:p i=false:=by simpa using h
   rcases oX p k (i+1) with ⟨e,hn⟩ | ⟨q,e,q1,q2,q3,q4⟩
   ·refine .inl ⟨e,fun j a b=>?_⟩
    by_cases e:j=i
    ·rw [e];exact h
    ·exact hn j (by omega) (by omega)
   ·refine .inr ⟨q,e,by omega,by omega,q3,fun j a b=>?_⟩
    by_cases e:j=i
    ·rw [e];exact h
    ·exact q4 j (by omega) b
end Go.Abs
end
noncomputable section
namespace Go.Abs
open Go.Proofs Classical Go.Abs.Fin
theorem nk {xs:List (Option Nat)} {n:Nat} (hf:cG xs) (hn:xs.length=n):∀ (k b i:Nat),i+k=n->b<n->b<=i->(∀ j,j<i->bF xs j<=bF xs b)->(∀ j,j<b->bF xs j<bF xs b)->
  kl xs k b i<n/\(∀ j,j<n->bF xs j<=bF xs (kl xs k b i))/\(∀ j,j<kl xs k b i->bF xs j<bF xs (kl xs k b i))
 | 0,b,i,hi,hb,FZ,h1,h2=>⟨hb,fun j hj=>h1 j (by omega),h2⟩
 | k+1,b,i,hi,hb,FZ,h1,h2=>by
  have e:(aM .f32 (xs.getD i none) (xs.getD b none)==some .gt)=decide (bF xs b<bF xs i):=bgt (hf.get (by omega)) (hf.get (by omega))
  rw [kl,e]
  by_cases h:bF xs b<bF xs i
  ·rw [if_pos (decide_eq_true h)]
   refine nk hf hn k i (i+1) (by omega) (by omega) (by omega) (fun j hj=>?_) (fun j hj=>?_)
   ·by_cases q:j=i
    ·subst q;exact Int.le_refl _
    ·have:=h1 j (by omega);omega
   ·have:=h1 j hj;omega
  ·rw [if_neg (by rw [decide_eq_true_eq];exact h)]
   refine nk hf hn k b (i+1) (by omega) hb (by omega) (fun j hj=>?_) h2
   by_cases q:j=i
   ·subst q;omega
   ·exact h1 j (by omega)
theorem NA {xs:List (Option Nat)} {A m n:Nat} {ls:List AV} (hT:ke xs A m ls) (hn:xs.length=n) (h0:0<n):gj n xs (A:Int) ls=(kl xs n 0 0:Nat):=by
 subst hn
 obtain ⟨p1,p2,p3⟩:=nk hT.fin rfl xs.length 0 0 (by omega) h0 (by omega) (fun j hj=>by omega) (fun j hj=>by omega)
 have hs:Std (bF xs) (Cj xs ls (A:Int) (xs.length:Int) 0 (xs.length:Int)).1 (Cj xs ls (A:Int) (xs.length:Int) 0 (xs.length:Int)).2 0 xs.length:=UO hT (f:=0) (t:=xs.length) h0 (Nat.le_refl _)
 unfold gj
 generalize (Cj xs ls (A:Int) (xs.length:Int) 0 (xs.length:Int))=q at hs
 generalize kl xs xs.length 0 0=r at p1 p2 p3
 obtain ⟨_,g2,_,⟨k,_,k1,k2⟩,g5⟩:=hs
 have kr:bF xs r=aU q.2:=by
  have a:=(g5 r (by omega) p1).2
  have b:=p2 k k1
  omega
 have hp:∀ j,j<xs.length->mj (xs.getD j none) q.2=decide (bF xs j=aU q.2):=fun j hj=>Ew (hT.fin.get hj) g2
 have e:=br (p:=fun j=>mj (xs.getD j none) q.2) (n:=xs.length) (at_:=0) (En:=r) (by omega) (by omega) (fun j _ hj=>by
  show mj (xs.getD j none) q.2=false
  rw [hp j (by omega)]
  have:=p3 j hj
  exact decide_eq_false (by omega))
 rw [Nat.sub_zero] at e
 rw [e]
 exact cq p1 (by show mj (xs.getD r none) q.2=true;rw [hp r p1];exact decide_eq_true kr)
theorem Nz {n:Nat} {xs:List (Option Nat)} {A:Nat} (hn:xs.length=n) (hs:aY n xs=0) (h1:1<=A) (h2:A<=256):iK n xs (A:Int) (aN xs A).length (an (aN xs A))=0:=by
 obtain ⟨hn4,hf⟩:=gW hs
 have dH:=jf (xs:=xs) (b:=A) (by omega) (by omega) hf
 unfold iK
 rw [if_pos hs,if_neg (by omega),Int.toNat_natCast]
 rw [←qP dH]
 unfold lJ
 have e1:ma (aN xs A) (aN xs A).length (an (aN xs A))=true:=bT.2 fun i hi=>by
  rw [ni hi];exact decide_eq_true rfl
 have e2:oU (aN xs A).length (an (aN xs A))=true:=bT.2 fun i hi=>by
  rw [ni hi];exact oV.2 (di.at i dH hi).ab8
 have e3:lI (aN xs A) (aN xs A).length (an (aN xs A))=true:=bT.2 fun i hi=>by
  rw [ni hi];exact bT.2 fun j hj=>decide_eq_true rfl
 rw [if_pos rfl,if_pos e1,if_pos e2,if_pos e3]
end Go.Abs
end
