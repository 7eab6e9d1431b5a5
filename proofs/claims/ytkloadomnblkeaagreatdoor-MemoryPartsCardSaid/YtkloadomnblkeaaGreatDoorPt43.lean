/- Part 43 of the library that the proof of the statement uses: an abstract run of the program, proved right, and what its functions give. -/
import Derived.Test.YtkloadomnblkeaaGreatDoorPt36
set_option linter.unusedVariables false
set_option linter.unusedSimpArgs false

set_option maxRecDepth 100000
noncomputable section
namespace Go.Abs
open Go.Proofs Classical
abbrev PI:=Int × Int × Nat
def encI (E:List PI):List (AV × AV × Nat):=E.map fun e=>(.int .i64 e.1,.int .i64 e.2.1,e.2.2)
def lookE:List PI->Int->Int
 | [],_=>0
 | e::E,q=>if e.1=q then e.2.1 else lookE E q
def putE:List PI->Int->Int->Nat->List PI
 | [],q,v,c=>[(q,v,c)]
 | e::E,q,v,c=>if e.1=q then (q,v,e.2.2)::E else e::putE E q v c
theorem look_put:∀ (E:List PI) (q v:Int) (c:Nat) (r:Int),lookE (putE E q v c) r=if r=q then v else lookE E r
 | [],q,v,c,r=>by
  simp only [putE,lookE]
  by_cases h:r=q
  ·rw [if_pos h,if_pos h.symm]
  ·rw [if_neg h,if_neg (fun e=>h e.symm)]
 | e::E,q,v,c,r=>by
  rw [putE]
  by_cases h:e.1=q
  ·rw [if_pos h]
   simp only [lookE]
   by_cases hr:r=q
   ·rw [if_pos hr,if_pos hr.symm]
   ·rw [if_neg hr,if_neg (fun e=>hr e.symm),if_neg (by rw [h];exact fun e=>hr e.symm)]
  ·rw [if_neg h]
   simp only [lookE,look_put E q v c r]
   by_cases hr:r=q
   ·subst hr;rw [if_neg h,if_pos rfl];simp
   ·rw [if_neg hr];simp [hr]
theorem aeq_int (a b:Int):aeq Tryz.prog 64 3 (.int .i64 a) (.int .i64 b)=some (a==b):=by kernel_rfl
theorem same_int (a b:Int):asameKey 64 (.int .i64 a) (.int .i64 b)=((IntKind.i64==IntKind.i64)&&(a==b)):=by kernel_rfl
theorem zero_int:zeroOf Tryz.prog 3=some (.int .i64 0):=by kernel_rfl
theorem findI {q:Int}:∀ (E:List PI) (i:Nat),(afindKey Tryz.prog 3 (.int .i64 q) (encI E) i=some none/\lookE E q=0/\∀ v c,putE E q v c=E++[(q,v,c)])\/
  ∃ j x c0,afindKey Tryz.prog 3 (.int .i64 q) (encI E) i=some (some (i+j,.int .i64 (lookE E q)))/\(encI E)[j]?=some (.int .i64 q,x,c0)/\∀ v c,encI (putE E q v c)=(encI E).set j (.int .i64 q,.int .i64 v,c0)
 | [],i=>.inl ⟨rfl,rfl,fun v c=>rfl⟩
 | e::E,i=>by
  by_cases h:e.1=q
  ·subst h
   have h1:aeq Tryz.prog 64 3 (.int .i64 e.1) (.int .i64 e.1)=some true:=by rw [aeq_int,beq_self_eq_true]
   refine .inr ⟨0,.int .i64 e.2.1,e.2.2,?_,rfl,fun v c=>?_⟩
   ·simp only [encI,List.map_cons,afindKey,h1,lookE,if_true,Nat.add_zero]
   ·simp only [putE,if_true,encI,List.map_cons,List.set_cons_zero]
  ·have h1:aeq Tryz.prog 64 3 (.int .i64 q) (.int .i64 e.1)=some false:=by rw [aeq_int,beq_eq_false_iff_ne.2 (fun e2=>h e2.symm)]
   rcases findI (q:=q) E (i+1) with ⟨a1,a2,a3⟩ | ⟨j,x,c0,a1,a2,a3⟩
   ·refine .inl ⟨?_,?_,fun v c=>?_⟩
    ·simp only [encI,List.map_cons,afindKey,h1];exact a1
    ·simp only [lookE,if_neg h];exact a2
    ·simp only [putE,if_neg h,a3];rfl
   ·refine .inr ⟨j+1,x,c0,?_,?_,fun v c=>?_⟩
    ·simp only [encI,List.map_cons,afindKey,h1,lookE,if_neg h]
     rw [show i+(j+1)=i+1+j by omega];exact a1
    ·simp only [encI,List.map_cons,List.getElem?_cons_succ];exact a2
    ·have:=a3 v c
     simp only [encI] at this
     simp only [putE,if_neg h,encI,List.map_cons,List.set_cons_succ,this]
theorem look_int (E:List PI) (q:Int):∃ b,mlook Tryz.prog 3 3 (.int .i64 q) (encI E)=some (b,.int .i64 (lookE E q)):=by
 rcases findI (q:=q) E 0 with ⟨a1,a2,_⟩ | ⟨j,x,c0,a1,_,_⟩
 ·exact ⟨false,by simp only [mlook,a1,zero_int,a2]⟩
 ·exact ⟨true,by simp only [mlook,a1]⟩
theorem put_int (E:List PI) (q v:Int) (ck:Nat):∃ ck',mput Tryz.prog 3 (.int .i64 q) (.int .i64 v) (encI E) ck=some (encI (putE E q v ck),ck'):=by
 rcases findI (q:=q) E 0 with ⟨a1,_,a3⟩ | ⟨j,x,c0,a1,a2,a3⟩
 ·refine ⟨ck+1,?_⟩
  simp only [mput,a1,a3]
  simp only [encI,List.map_append,List.map_cons,List.map_nil]
 ·have h2:asameKey 64 (.int .i64 q) (.int .i64 q)=true:=by rw [same_int,beq_self_eq_true,beq_self_eq_true];rfl
  refine ⟨ck,?_⟩
  rw [Nat.zero_add] at a1
  simp only [mput,a1,a2,h2,a3]
def cntN (a n t q:Int):Nat->Int->Nat
 | 0,_=>0
 | k+1,at_=>if at_<t then (if (bestC n t at_ 14 0 a (-1,at_,at_+1)).1=q then 1 else 0)+cntN a n t q k (bestC n t at_ 14 0 a (-1,at_,at_+1)).2.2 else 0
def okN (n t at_ w:Nat):Prop:=w ∣ at_/\min n (at_+w)<=t
theorem ok_iff {n t at_ w:Nat}:((at_:Int)%(w:Int)=0/\min (n:Int) ((at_:Int)+(w:Int))<=(t:Int))↔okN n t at_ w:=by
 unfold okN
 rw [Nat.dvd_iff_mod_eq_zero,←Int.natCast_emod]
 omega
theorem best_max {A n t at_:Nat}:∀ (k l:Nat) (cur:Int × Int × Int),n<A*2 ^ l*2 ^ k->
  (bestC (n:Int) (t:Int) (at_:Int) (k+1) (l:Int) ((A*2 ^ l:Nat):Int) cur=cur/\¬ okN n t at_ (A*2 ^ l))\/
  ∃ L,l<=L/\(bestC (n:Int) (t:Int) (at_:Int) (k+1) (l:Int) ((A*2 ^ l:Nat):Int) cur).1=(L:Int)/\(bestC (n:Int) (t:Int) (at_:Int) (k+1) (l:Int) ((A*2 ^ l:Nat):Int) cur).2.2=((min n (at_+A*2 ^ L):Nat):Int)/\okN n t at_ (A*2 ^ L)/\(n<=A*2 ^ L\/¬ okN n t at_ (A*2 ^ (L+1)))
 | k,l,cur,hk=>by
  rw [bestC]
  by_cases hok:okN n t at_ (A*2 ^ l)
  ·rw [if_pos (ok_iff.2 hok)]
   right
   have hmin:min (n:Int) ((at_:Int)+((A*2 ^ l:Nat):Int))=((min n (at_+A*2 ^ l):Nat):Int):=by omega
   by_cases hn:n<=A*2 ^ l
   ·rw [if_pos (by omega)]
    exact ⟨l,Nat.le_refl _,rfl,hmin,hok,.inl hn⟩
   ·rw [if_neg (by omega)]
    have e:(2*((A*2 ^ l:Nat):Int))=((A*2 ^ (l+1):Nat):Int):=by
     rw [Nat.pow_succ,←Nat.mul_assoc];omega
    have e2:((l:Int)+1)=((l+1:Nat):Int):=by omega
    rw [e,e2]
    cases k with
    | zero=>simp at hk;omega
    | succ k=>
     have hk':n<A*2 ^ (l+1)*2 ^ k:=by
      rw [Nat.pow_succ,Nat.mul_comm (2 ^ k) 2,←Nat.mul_assoc] at hk
      rw [Nat.pow_succ,←Nat.mul_assoc];exact hk
     rcases best_max k (l+1) ((l:Int),(at_:Int) / ((A*2 ^ l:Nat):Int),min (n:Int) ((at_:Int)+((A*2 ^ l:Nat):Int))) hk' with ⟨b1,b2⟩ | ⟨L,b1,b2,b3,b4,b5⟩
     ·rw [b1]
      exact ⟨l,Nat.le_refl _,rfl,hmin,hok,.inr b2⟩
     ·exact ⟨L,by omega,b2,b3,b4,b5⟩
  ·rw [if_neg (fun h=>hok (ok_iff.1 h))]
   exact .inl ⟨rfl,hok⟩
theorem best_cases {A n t at_:Nat} (hA:1<=A) (hn:n<=4096):∀ r,r=bestC (n:Int) (t:Int) (at_:Int) 14 0 (A:Int) (-1,(at_:Int),(at_:Int)+1)->
  (r.1=-1/\r.2.2=((at_+1:Nat):Int)/\¬ okN n t at_ A)\/
  ∃ L:Nat,r.1=(L:Int)/\r.2.2=((min n (at_+A*2 ^ L):Nat):Int)/\okN n t at_ (A*2 ^ L)/\(n<=A*2 ^ L\/¬ okN n t at_ (A*2 ^ (L+1))):=by
 intro r hr
 have:=best_max (A:=A) (n:=n) (t:=t) (at_:=at_) 13 0 (-1,(at_:Int),(at_:Int)+1) (by omega)
 simp only [Nat.pow_zero,Nat.mul_one,Int.natCast_zero] at this
 subst hr
 rcases this with ⟨b1,b2⟩ | ⟨L,b1,b2,b3,b4,b5⟩
 ·rw [b1]
  exact .inl ⟨rfl,by show (at_:Int)+1=_;omega,b2⟩
 ·exact .inr ⟨L,b2,b3,b4,b5⟩
theorem cnt_level {A n t q:Nat} (hA:1<=A) (hn:n<=4096) (ht:t<=n):∀ (k at_:Nat),at_<=t->t<at_+k->
  cntN A n t q k at_<=2/\(2*(A*2 ^ q) ∣ at_->cntN A n t q k at_<=1)/\(t<n->t<at_+A*2 ^ q->cntN A n t q k at_=0)
 | 0,at_,h1,h2=>by omega
 | k+1,at_,h1,h2=>by
  rw [cntN]
  by_cases hlt:at_<t
  case neg=>rw [if_neg (by omega)];omega
  rw [if_pos (by omega)]
  have hb:=best_start (a:=(A:Int)) (n:=(n:Int)) (to:=(t:Int)) (at_:=(at_:Int)) (by omega) (by omega) (by omega) (by omega) _ rfl
  have hc:=best_cases (A:=A) (n:=n) (t:=t) (at_:=at_) hA hn _ rfl
  generalize bestC (n:Int) (t:Int) (at_:Int) 14 0 (A:Int) (-1,(at_:Int),(at_:Int)+1)=r at hb hc ⊢
  obtain ⟨_,b1,b2,_⟩:=hb
  obtain ⟨e,he⟩:=Int.eq_ofNat_of_zero_le (show 0<=r.2.2 by omega)
  rw [he] at b1 b2
  obtain ⟨i1,i2,i3⟩:=cnt_level (q:=q) hA hn ht k e (by omega) (by omega)
  rw [he]
  have hw:1<=A*2 ^ q:=Nat.mul_pos hA (Nat.two_pow_pos _)
  have fin:e=t->cntN A n t q k e=0:=by
   intro e0
   subst e0
   cases k with
   | zero=>rfl
   | succ k=>rw [cntN,if_neg (by omega)]
  have Z:t<n->t<at_+A*2 ^ q->r.1≠(q:Int)/\cntN A n t q k e=0:=by
   intro z1 z2
   refine ⟨fun hq=>?_,i3 z1 (by omega)⟩
   rcases hc with ⟨c1,_,_⟩ | ⟨L,c1,c2,c3,_⟩
   ·omega
   ·obtain rfl:L=q:=by omega
    have:=c3.2
    omega
  refine ⟨?_,?_,?_⟩
  ·by_cases hq:r.1=(q:Int)
   ·rw [if_pos hq]
    rcases hc with ⟨c1,_,_⟩ | ⟨L,c1,c2,c3,c4⟩
    ·omega
    obtain rfl:L=q:=by omega
    by_cases hend:n<=at_+A*2 ^ L
    ·rw [fin (by omega)];omega
    ·have he2:e=at_+A*2 ^ L:=by omega
     by_cases hd:2*(A*2 ^ L) ∣ at_
     ·have:¬ okN n t at_ (A*2 ^ (L+1)):=by
       rcases c4 with c4 | c4
       ·omega
       ·exact c4
      have e3:A*2 ^ (L+1)=2*(A*2 ^ L):=by rw [Nat.pow_succ,←Nat.mul_assoc,Nat.mul_comm]
      rw [e3] at this
      have h4:t<min n (at_+2*(A*2 ^ L)):=by
       rcases Nat.lt_or_ge t (min n (at_+2*(A*2 ^ L))) with h | h
       ·exact h
       ·exact absurd ⟨hd,h⟩ this
      rw [i3 (by omega) (by omega)];omega
     ·have:2*(A*2 ^ L) ∣ e:=by
       obtain ⟨p,hp⟩:=c3.1
       rw [he2,hp]
       generalize A*2 ^ L=z at hp hd ⊢
       rcases Nat.mod_two_eq_zero_or_one p with hm | hm
       ·exact absurd ⟨p / 2,by rw [hp,show p=2*(p / 2) by omega];rw [show 2*(p / 2) / 2=p / 2 by omega,Nat.mul_comm 2 z,Nat.mul_assoc]⟩ hd
       ·refine ⟨p / 2+1,?_⟩
        have e5:p=2*(p / 2)+1:=by omega
        generalize p / 2=s at e5
        subst e5
        rw [Nat.mul_add,Nat.mul_add,Nat.mul_one,Nat.mul_one,←Nat.mul_assoc,Nat.mul_comm z 2];omega
      have:=i2 this
      omega
   ·rw [if_neg hq];omega
  ·intro hd
   have hdw:A*2 ^ q ∣ at_:=Nat.dvd_trans (Nat.dvd_mul_left _ _) hd
   by_cases hq:r.1=(q:Int)
   ·rw [if_pos hq]
    rcases hc with ⟨c1,_,_⟩ | ⟨L,c1,c2,c3,c4⟩
    ·omega
    obtain rfl:L=q:=by omega
    by_cases hend:n<=at_+A*2 ^ L
    ·rw [fin (by omega)];omega
    ·have:¬ okN n t at_ (A*2 ^ (L+1)):=by
      rcases c4 with c4 | c4
      ·omega
      ·exact c4
     have e3:A*2 ^ (L+1)=2*(A*2 ^ L):=by rw [Nat.pow_succ,←Nat.mul_assoc,Nat.mul_comm]
     rw [e3] at this
     have h4:t<min n (at_+2*(A*2 ^ L)):=by
      rcases Nat.lt_or_ge t (min n (at_+2*(A*2 ^ L))) with h | h
      ·exact h
      ·exact absurd ⟨hd,h⟩ this
     rw [i3 (by omega) (by omega)];omega
   ·rw [if_neg hq,Nat.zero_add]
    rcases hc with ⟨c1,c2,c3⟩ | ⟨L,c1,c2,c3,c4⟩
    ·have hAd:A ∣ at_:=Nat.dvd_trans (Nat.dvd_mul_right _ _) hdw
     have h4:t<min n (at_+A):=by
      rcases Nat.lt_or_ge t (min n (at_+A)) with h | h
      ·exact h
      ·exact absurd ⟨hAd,h⟩ c3
     have:A<=A*2 ^ q:=Nat.le_mul_of_pos_right _ (Nat.two_pow_pos _)
     rw [(Z (by omega) (by omega)).2];omega
    ·by_cases hend:n<=at_+A*2 ^ L
     ·rw [fin (by omega)];omega
     have he2:e=at_+A*2 ^ L:=by omega
     rcases Nat.lt_trichotomy L q with hL | hL | hL
     ·have c5:¬ okN n t at_ (A*2 ^ (L+1)):=by
       rcases c4 with c4 | c4
       ·omega
       ·exact c4
      have hle:A*2 ^ (L+1)<=A*2 ^ q:=Nat.mul_le_mul_left _ (Nat.pow_le_pow_right (by omega) hL)
      have hdv:A*2 ^ (L+1) ∣ at_:=Nat.dvd_trans (Nat.mul_dvd_mul_left _ (Nat.pow_dvd_pow _ hL)) hdw
      have h4:t<min n (at_+A*2 ^ (L+1)):=by
       rcases Nat.lt_or_ge t (min n (at_+A*2 ^ (L+1))) with h | h
       ·exact h
       ·exact absurd ⟨hdv,h⟩ c5
      rw [(Z (by omega) (by omega)).2];omega
     ·omega
     ·refine i2 ?_
      rw [he2]
      refine Nat.dvd_add hd ?_
      rw [show 2*(A*2 ^ q)=A*2 ^ (q+1) by rw [Nat.pow_succ,Nat.mul_comm (2 ^ q) 2,Nat.mul_left_comm]]
      exact Nat.mul_dvd_mul_left _ (Nat.pow_dvd_pow _ hL)
  ·intro z1 z2
   obtain ⟨y1,y2⟩:=Z z1 z2
   rw [if_neg y1,y2]
theorem cnt_sample {A n t:Nat} (hA:1<=A) (hn:n<=4096) (ht:t<=n):∀ (k at_:Nat),at_<=t->t<at_+k->
  cntN A n t (-1) k at_<=t-at_/\(A ∣ at_->cntN A n t (-1) k at_<=A-1)/\cntN A n t (-1) k at_<=(A-at_%A)+(A-1)/\cntN A n t (-1) k at_<=2*(A-1)
 | 0,at_,h1,h2=>by omega
 | k+1,at_,h1,h2=>by
  rw [cntN]
  by_cases hlt:at_<t
  case neg=>rw [if_neg (by omega)];omega
  rw [if_pos (by omega)]
  have hb:=best_start (a:=(A:Int)) (n:=(n:Int)) (to:=(t:Int)) (at_:=(at_:Int)) (by omega) (by omega) (by omega) (by omega) _ rfl
  have hc:=best_cases (A:=A) (n:=n) (t:=t) (at_:=at_) hA hn _ rfl
  generalize bestC (n:Int) (t:Int) (at_:Int) 14 0 (A:Int) (-1,(at_:Int),(at_:Int)+1)=r at hb hc ⊢
  obtain ⟨_,b1,b2,_⟩:=hb
  obtain ⟨e,he⟩:=Int.eq_ofNat_of_zero_le (show 0<=r.2.2 by omega)
  rw [he] at b1 b2
  obtain ⟨i1,i2,i3,i4⟩:=cnt_sample hA hn ht k e (by omega) (by omega)
  rw [he]
  have fin:e=t->cntN A n t (-1) k e=0:=by
   intro e0
   subst e0
   cases k with
   | zero=>rfl
   | succ k=>rw [cntN,if_neg (by omega)]
  have hm:=Nat.mod_lt at_ (show 0<A by omega)
  rcases hc with ⟨c1,c2,c3⟩ | ⟨L,c1,c2,c3,c4⟩
  ·rw [if_pos c1]
   have he2:e=at_+1:=by omega
   subst he2
   have tot:1+cntN A n t (-1) k ((at_+1:Nat):Int)<=t-at_:=by omega
   by_cases hd:A ∣ at_
   ·have h4:t<min n (at_+A):=by
     rcases Nat.lt_or_ge t (min n (at_+A)) with h | h
     ·exact h
     ·exact absurd ⟨hd,h⟩ c3
    have h0:=Nat.mod_eq_zero_of_dvd hd
    refine ⟨tot,fun _=>by omega,by omega,by omega⟩
   ·have h0:at_%A≠0:=fun h=>hd (Nat.dvd_of_mod_eq_zero h)
    refine ⟨tot,fun h=>absurd h hd,?_,?_⟩
    all_goals
     by_cases hlast:at_%A+1=A
     ·have:A ∣ at_+1:=by
       have:=Nat.div_add_mod at_ A
       exact ⟨at_ / A+1,by rw [Nat.mul_add];omega⟩
      have:=i2 this
      omega
     ·have:(at_+1)%A=at_%A+1:=by
       rw [Nat.add_mod,Nat.mod_eq_of_lt (show 1<A by omega),Nat.mod_eq_of_lt (by omega)]
      rw [this] at i3
      omega
  ·rw [if_neg (by omega),Nat.zero_add]
   have hd:A ∣ at_:=Nat.dvd_trans (Nat.dvd_mul_right _ _) c3.1
   have key:cntN A n t (-1) k e<=A-1:=by
    by_cases hend:n<=at_+A*2 ^ L
    ·rw [fin (by omega)];omega
    ·have he2:e=at_+A*2 ^ L:=by omega
     exact i2 (by rw [he2];exact Nat.dvd_add hd (Nat.dvd_mul_right _ _))
   exact ⟨by omega,fun _=>key,by omega,by omega⟩
theorem coverL_few {A n t:Nat} (hA:1<=A) (ht:t<=n):∀ (k at_:Nat),at_<=t->(coverL A n t k at_).length<=2*(t-at_)
 | 0,at_,h1=>by simp [coverL]
 | k+1,at_,h1=>by
  rw [coverL]
  by_cases hlt:at_<t
  case neg=>rw [if_neg (by omega)];simp
  rw [if_pos (by omega)]
  have hb:=best_start (a:=(A:Int)) (n:=(n:Int)) (to:=(t:Int)) (at_:=(at_:Int)) (by omega) (by omega) (by omega) (by omega) _ rfl
  generalize bestC (n:Int) (t:Int) (at_:Int) 14 0 (A:Int) (-1,(at_:Int),(at_:Int)+1)=r at hb ⊢
  obtain ⟨_,b1,b2,_⟩:=hb
  obtain ⟨e,he⟩:=Int.eq_ofNat_of_zero_le (show 0<=r.2.2 by omega)
  rw [he] at b1 b2 ⊢
  have:=coverL_few hA ht k e (by omega)
  simp only [List.length_append,List.length_cons,List.length_nil]
  omega
end Go.Abs
end
