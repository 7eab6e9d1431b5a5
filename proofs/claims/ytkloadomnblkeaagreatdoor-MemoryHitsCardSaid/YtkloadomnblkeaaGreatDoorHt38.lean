/- Part 38 of the library of the proof: an abstract run of the program. -/
import Derived.Test.YtkloadomnblkeaaGreatDoorHt14
import Derived.Test.YtkloadomnblkeaaGreatDoorHt34
import Derived.Test.YtkloadomnblkeaaGreatDoorHt37
set_option linter.unusedVariables false
set_option linter.unusedSimpArgs false

noncomputable section
namespace Go.Abs
open Go.Proofs Classical
def dq (n to at_:Int):Nat->Int->Int->Int × Int × Int->Int × Int × Int
 | 0,_,_,cur=>cur
 | k+1,l,s,cur=>if at_%s=0/\min n (at_+s)<=to then (if n<=s then (l,at_ / s,min n (at_+s)) else dq n to at_ k (l+1) (2*s) (l,at_ / s,min n (at_+s))) else cur
theorem GU (a n to at_:Int) (h0:0<=at_) (WG:at_<to) (Yf:to<=n):∀ (k:Nat) (l s:Int) (cur:Int × Int × Int),0<=l->1<=s->s=a*2 ^ l.toNat->l+k<=14->
  ((nO a n cur.1 cur.2.1).2=cur.2.2/\at_<cur.2.2/\cur.2.2<=to/\-1<=cur.1/\cur.1<=13/\0<=cur.2.1/\cur.2.1<=at_)->
  ((nO a n (dq n to at_ k l s cur).1 (dq n to at_ k l s cur).2.1).2=(dq n to at_ k l s cur).2.2/\at_<(dq n to at_ k l s cur).2.2/\(dq n to at_ k l s cur).2.2<=to/\-1<=(dq n to at_ k l s cur).1/\(dq n to at_ k l s cur).1<=13/\0<=(dq n to at_ k l s cur).2.1/\(dq n to at_ k l s cur).2.1<=at_)
 | 0,l,s,cur,_,_,_,_,h=>h
 | k+1,l,s,cur,hl,hs,he,hk,h=>by
  rw [dq]
  split
  ·rename_i bw
   have nT:(nO a n l (at_ / s)).2=min n (at_+s)/\at_<min n (at_+s)/\min n (at_+s)<=to/\-1<=l/\l<=13/\0<=at_ / s/\at_ / s<=at_:=by
    refine ⟨?_,by omega,bw.2,by omega,by omega,Int.ediv_nonneg h0 (by omega),Int.ediv_le_self _ h0⟩
    unfold nO
    rw [if_neg (by omega),←he]
    have e1:s*(at_ / s)=at_:=Int.mul_ediv_cancel' (Int.dvd_of_emod_eq_zero bw.1)
    show min n (s*(at_ / s+1))=_
    rw [Int.mul_add,e1,Int.mul_one]
   split
   ·exact nT
   ·refine GU a n to at_ h0 WG Yf k (l+1) (2*s) _ (by omega) (by omega) ?_ (by omega) nT
    rw [he,show (l+1).toNat=l.toNat+1 by omega,Int.pow_succ]
    generalize (2:Int) ^ l.toNat=z
    grind
  ·exact h
theorem ki {a n to at_:Int} (h0:0<=at_) (WG:at_<to) (Yf:to<=n) (ha:1<=a):
  ∀ r,r=dq n to at_ 14 0 a (-1,at_,at_+1)->(nO a n r.1 r.2.1).2=r.2.2/\at_<r.2.2/\r.2.2<=to/\-1<=r.1/\r.1<=13/\0<=r.2.1/\r.2.1<=at_:=by
 intro r hr
 subst hr
 exact GU a n to at_ h0 WG Yf 14 0 a _ (by omega) ha (by simp) (by omega) ⟨rfl,by show at_<at_+1;omega,by show at_+1<=to;omega,by show (-1:Int)<=-1;omega,by show (-1:Int)<=13;omega,h0,Int.le_refl _⟩
end Go.Abs
end
set_option maxRecDepth 100000
noncomputable section
namespace Go.Abs
open Go.Proofs Classical Go.Abs.Fin
theorem UN (a b c d:Int):wO Tryz.prog 64 130 (.agg [.int .i64 a,.int .i64 b]) (.agg [.int .i64 c,.int .i64 d])=(match (a==c) with | true=>(match (b==d) with | true=>some true | false=>some false) | false=>some false):=by kernel_rfl
abbrev PE:=(Int × Int) × (Option Nat × Option Nat)
def Ia (p:Int × Int):AV:=.agg [.int .i64 p.1,.int .i64 p.2]
def vAV (q:Option Nat × Option Nat):AV:=.agg [.aL .f32 q.1,.aL .f32 q.2]
def dj:Nat->List PE->List (AV × AV × Nat)
 | _,[]=>[]
 | c,e::es=>(Ia e.1,vAV e.2,c)::dj (c+1) es
theorem GV:∀ (E:List PE) (c:Nat) (e:PE),dj c (E++[e])=dj c E++[(Ia e.1,vAV e.2,c+E.length)]
 | [],c,e=>rfl
 | x::E,c,e=>by
  rw [List.cons_append,dj,GV E (c+1) e,dj,List.length_cons,show c+1+E.length=c+(E.length+1) by omega];rfl
theorem Ev (k q:Int × Int):wO Tryz.prog 64 130 (Ia k) (Ia q)=some (decide (k=q)):=by
 unfold Ia
 rw [UN]
 by_cases h1:k.1=q.1
 ·rw [beq_iff_eq.2 h1]
  by_cases h2:k.2=q.2
  ·rw [beq_iff_eq.2 h2,decide_eq_true (Prod.ext h1 h2)]
  ·rw [beq_eq_false_iff_ne.2 h2,decide_eq_false (fun e=>h2 (by rw [e]))]
 ·rw [beq_eq_false_iff_ne.2 h1,decide_eq_false (fun e=>h1 (by rw [e]))]
theorem C0 {k:Int × Int}:∀ (E:List PE) (c i:Nat),(∀ e∈E,e.1≠k)->cb Tryz.prog 130 (Ia k) (dj c E) i=some none
 | [],c,i,h=>rfl
 | e::E,c,i,h=>by
  have h1:wO Tryz.prog 64 130 (Ia k) (Ia e.1)=some false:=by rw [Ev,decide_eq_false (fun e2=>h e List.mem_cons_self e2.symm)]
  simp only [dj,cb,h1]
  exact C0 E (c+1) (i+1) fun e he=>h e (List.mem_cons_of_mem _ he)
theorem C1 {k:Int × Int} {v:Option Nat × Option Nat}:∀ (E:List PE) (c i:Nat),(k,v)∈E->(∀ e∈E,e.1=k->e.2=v)->∃ j,cb Tryz.prog 130 (Ia k) (dj c E) i=some (some (j,vAV v))
 | [],c,i,h,_=>by cases h
 | e::E,c,i,h,hu=>by
  by_cases he:k=e.1
  ·have h1:wO Tryz.prog 64 130 (Ia k) (Ia e.1)=some true:=by rw [Ev,decide_eq_true he]
   simp only [dj,cb,h1]
   exact ⟨i,by rw [hu e List.mem_cons_self he.symm]⟩
  ·have h1:wO Tryz.prog 64 130 (Ia k) (Ia e.1)=some false:=by rw [Ev,decide_eq_false he]
   simp only [dj,cb,h1]
   rcases List.mem_cons.1 h with h | h
   ·exact absurd (congrArg Prod.fst h) he
   ·exact C1 E (c+1) (i+1) h fun e he=>hu e (List.mem_cons_of_mem _ he)
theorem Qr {E:List PE} {k:Int × Int} {v:Option Nat × Option Nat} (h:∀ e∈E,e.1≠k):GW Tryz.prog 130 (Ia k) (vAV v) (dj 0 E) E.length=some (dj 0 (E++[(k,v)]),(E++[(k,v)]).length):=by
 simp only [GW,C0 E 0 0 h,GV,Nat.zero_add,List.length_append,List.length_cons,List.length_nil]
theorem Qs {E:List PE} {k:Int × Int} {v:Option Nat × Option Nat} (h1:(k,v)∈E) (h2:∀ e∈E,e.1=k->e.2=v):iq Tryz.prog 130 62 (Ia k) (dj 0 E)=some (true,vAV v):=by
 obtain ⟨j,hj⟩:=C1 E 0 0 h1 h2
 simp only [iq,hj]
def kg (len:Nat->Nat) (pv:Nat->Nat->Option Nat × Option Nat) (E:List PE) (i k:Nat):Prop:=
 (∀ e∈E,∃ a b:Nat,e=(((a:Int),(b:Int)),pv a b)/\(a<i\/(a=i/\b<k)))/\(∀ a b:Nat,((a<i/\b<len a)\/(a=i/\b<k))->(((a:Int),(b:Int)),pv a b)∈E)
section
variable {len : Nat → Nat} {pv : Nat → Nat → Option Nat × Option Nat} {E : List PE} {i k : Nat}
theorem kg.nil:kg len pv [] 0 0:=⟨fun e h=>(List.not_mem_nil h).elim,fun a b h=>by omega⟩
theorem kg.fresh (h:kg len pv E i k):∀ e∈E,e.1≠((i:Int),(k:Int)):=by
 intro e he hk
 obtain ⟨a,b,rfl,h1⟩:=h.1 e he
 simp only [Prod.mk.injEq] at hk
 omega
theorem kg.step (h:kg len pv E i k):kg len pv (E++[(((i:Int),(k:Int)),pv i k)]) i (k+1):=by
 refine ⟨fun e he=>?_,fun a b OJ=>?_⟩
 ·rcases List.mem_append.1 he with he | he
  ·obtain ⟨a,b,rfl,h1⟩:=h.1 e he
   exact ⟨a,b,rfl,by omega⟩
  ·rw [List.mem_singleton] at he
   exact ⟨i,k,he,by omega⟩
 ·by_cases hk:a=i/\b=k
  ·obtain ⟨rfl,rfl⟩:=hk
   exact List.mem_append_right _ (List.mem_singleton.2 rfl)
  ·exact List.mem_append_left _ (h.2 a b (by omega))
theorem kg.next (h:kg len pv E i (len i)):kg len pv E (i+1) 0:=by
 refine ⟨fun e he=>?_,fun a b OJ=>?_⟩
 ·obtain ⟨a,b,rfl,h1⟩:=h.1 e he
  exact ⟨a,b,rfl,by omega⟩
 ·refine h.2 a b ?_
  by_cases ha:a=i
  ·subst ha;omega
  ·omega
theorem kg.look (h:kg len pv E i 0) {a b:Nat} (ha:a<i) (hb:b<len a):iq Tryz.prog 130 62 (Ia ((a:Int),(b:Int))) (dj 0 E)=some (true,vAV (pv a b)):=by
 refine Qs (h.2 a b (by omega)) fun e he hk=>?_
 obtain ⟨a',b',rfl,h1⟩:=h.1 e he
 simp only [Prod.mk.injEq] at hk
 obtain rfl:a'=a:=by omega
 obtain rfl:b'=b:=by omega
 rfl
end
def OK (ls:List AV) (a b:Nat):Option Nat × Option Nat:=
 (gJ (az ((fu ls a).getD (2*b) none)) (az ((fu ls a).getD (2*b+1) none)),gV (az ((fu ls a).getD (2*b) none)) (az ((fu ls a).getD (2*b+1) none)))
def nj (ls:List AV) (a:Nat):Nat:=(fu ls a).length / 2
structure ke (xs:List (Option Nat)) (A m:Nat) (ls:List AV):Prop where
 UB:xs.length<=4096
 fin:cG xs
 one:1<=A
 X5:A<=256
 len:(eG xs A).length=m
 lev:∀ i,i<m->Qd ((eG xs A).getD i []) (fu ls i)
theorem Ep {n m:Nat} {xs:List (Option Nat)} {b:Int} {ls:List AV} (hn:xs.length=n) (h:iK n xs b m ls=0):∃ A:Nat,b=(A:Int)/\ke xs A m ls:=by
 unfold iK at h
 split at h
 ·rename_i hs
  obtain ⟨h1,h2⟩:=gW hs
  split at h
  ·cases h
  ·rename_i hb
   obtain ⟨A,rfl⟩:=Int.eq_ofNat_of_zero_le (show 0<=b by omega)
   rw [Int.toNat_natCast] at h
   have dH:=jf (xs:=xs) (b:=A) (by omega) (by omega) h2
   unfold lJ at h
   split at h
   ·rename_i hl
    split at h
    ·rename_i hle
     split at h
     ·rename_i H6
      split at h
      ·rename_i hke
       refine ⟨A,rfl,by omega,h2,by omega,by omega,hl,fun i hi=>?_⟩
       have hs:=di.at i dH (by rw [dH.len,hl];exact hi)
       have e1:=of_decide_eq_true (bT.1 hle i hi)
       refine ⟨e1,by rw [←hs.len];exact hs.two,by rw [←hs.len];exact hs.UB,hs.Jr,oV.1 (bT.1 H6 i hi),fun j hj=>?_⟩
       exact (of_decide_eq_true (bT.1 (bT.1 hke i hi) j (by omega))).symm
      ·cases h
     ·cases h
    ·cases h
   ·cases h
 ·rename_i hs;exact absurd h hs
theorem Lr {xs:List (Option Nat)} {w:Nat} (hw:1<=w) (hf:cG xs):Qm (bF xs) xs.length w (kd xs w xs.length 0):=by
 have:=Et hw hf xs.length 0 0 [] (by simp) rfl (by omega) (by omega) (fun j hj=>by omega)
 simpa using this
theorem Lt {xs:List (Option Nat)} (h0:0<xs.length) (hf:cG xs):∀ (k w L:Nat),1<=w->xs.length<=w*2 ^ k->(L=0\/w*2 ^ (L-1)<xs.length)->
  L<(iJ xs k w).length/\(iJ xs k w).getD L []=kd xs (w*2 ^ L) xs.length 0
 | k,w,L,hw,hk,hL=>by
  have small:xs.length<=w->L=0:=by
   intro h
   rcases hL with hL | hL
   ·exact hL
   ·have:w*1<=w*2 ^ (L-1):=Nat.mul_le_mul_left _ (Nat.two_pow_pos _)
    omega
  cases k with
  | zero=>
   have:=small (by simpa using hk)
   subst this
   simp [iJ]
  | succ k=>
   rw [iJ]
   split
   ·rename_i h2
    obtain ⟨c,h3,h4,_⟩:=Lr hw hf
    have hc:c=1:=by omega
    subst hc
    have:=small (by omega)
    subst this
    simp
   ·cases L with
    | zero=>simp
    | succ L=>
     have iC:xs.length<=2*w*2 ^ k:=by
      rw [Nat.pow_succ,Nat.mul_comm (2 ^ k) 2,←Nat.mul_assoc,Nat.mul_comm w 2] at hk;exact hk
     have hL2:L=0\/2*w*2 ^ (L-1)<xs.length:=by
      cases L with
      | zero=>exact .inl rfl
      | succ L=>
       right
       rcases hL with hL | hL
       ·omega
       ·simp only [Nat.add_sub_cancel] at hL ⊢
        rw [Nat.pow_succ,Nat.mul_comm (2 ^ L) 2,←Nat.mul_assoc,Nat.mul_comm w 2] at hL;exact hL
     obtain ⟨i1,i2⟩:=Lt h0 hf k (2*w) L (by omega) iC hL2
     refine ⟨by simp only [List.length_cons];omega,?_⟩
     have e:w*2 ^ (L+1)=2*w*2 ^ L:=by rw [Nat.pow_succ,Nat.mul_comm (2 ^ L) 2,←Nat.mul_assoc,Nat.mul_comm w 2]
     rw [e]
     simpa using i2
def oY (A n:Nat) (at_:Nat) (r:Int × Int × Int):Prop:=
 (r.1=-1/\r.2.1=(at_:Int)/\r.2.2=((at_+1:Nat):Int))\/
 ∃ L I:Nat,r.1=(L:Int)/\r.2.1=(I:Int)/\I*(A*2 ^ L)=at_/\r.2.2=((min n (at_+A*2 ^ L):Nat):Int)/\(L=0\/A*2 ^ (L-1)<n)
theorem C2 {A n at_:Nat} {to:Int}:∀ (k l:Nat) (cur:Int × Int × Int),(l=0\/A*2 ^ (l-1)<n)->oY A n at_ cur->oY A n at_ (dq (n:Int) to (at_:Int) k (l:Int) ((A*2 ^ l:Nat):Int) cur)
 | 0,l,cur,hl,h=>h
 | k+1,l,cur,hl,h=>by
  rw [dq]
  split
  ·rename_i bw
   have nT:oY A n at_ ((l:Int),(at_:Int) / ((A*2 ^ l:Nat):Int),min (n:Int) ((at_:Int)+((A*2 ^ l:Nat):Int))):=by
    refine .inr ⟨l,at_ / (A*2 ^ l),rfl,by simp,?_,?_,hl⟩
    ·have h1:=bw.1
     have:at_%(A*2 ^ l)=0:=by
      rw [←Int.natCast_emod] at h1;omega
     exact Nat.div_mul_cancel (Nat.dvd_of_mod_eq_zero this)
    ·simp only [←Int.natCast_add];omega
   split
   ·exact nT
   ·rename_i hns
    have e:(2*((A*2 ^ l:Nat):Int))=((A*2 ^ (l+1):Nat):Int):=by
     rw [Nat.pow_succ,←Nat.mul_assoc];omega
    have e2:((l:Int)+1)=((l+1:Nat):Int):=by omega
    rw [e,e2]
    refine C2 k (l+1) _ (.inr ?_) nT
    simp only [Nat.add_sub_cancel]
    omega
  ·exact h
def ca (xs:List (Option Nat)) (ls:List AV) (l i:Int):Option Nat × Option Nat:=
 if l<0 then (az (xs.getD i.toNat none),az (xs.getD i.toNat none)) else OK ls l.toNat i.toNat
theorem Std.single {xs:List (Option Nat)} {i:Nat} (h:aJ (xs.getD i none)=true):Std (bF xs) (az (xs.getD i none)) (az (xs.getD i none)) i (i+1):=by
 have he:aU (az (xs.getD i none))=bF xs i:=p_ h
 refine ⟨bn h,bn h,⟨i,by omega,by omega,he.symm⟩,⟨i,by omega,by omega,he.symm⟩,fun j h1 h2=>?_⟩
 have:j=i:=by omega
 subst this
 simp only [he]
 omega
theorem Std.congr {f:Nat->Int} {a b c d:Option Nat} {lo hi:Nat} (h:Std f a b lo hi) (hc:aJ c=true) (hd:aJ d=true) (e1:aU a=aU c) (e2:aU b=aU d):Std f c d lo hi:=by
 obtain ⟨h1,h2,h3,h4,h5⟩:=h
 rw [e1] at h3
 rw [e2] at h4
 rw [e1,e2] at h5
 exact ⟨hc,hd,h3,h4,h5⟩
theorem Lu {xs:List (Option Nat)} {A m:Nat} {ls:List AV} (h:ke xs A m ls) {at_ L I:Nat} (ha:at_<xs.length) (h1:I*(A*2 ^ L)=at_) (h2:L=0\/A*2 ^ (L-1)<xs.length):
  L<m/\I<nj ls L/\Std (bF xs) ((fu ls L).getD (2*I) none) ((fu ls L).getD (2*I+1) none) at_ (min xs.length (at_+A*2 ^ L)):=by
 have h0:0<xs.length:=by omega
 have hr:eG xs A=iJ xs 13 A:=if_neg (by omega)
 have hA:=h.one
 have UA:=h.UB
 have hk:xs.length<=A*2 ^ 13:=by omega
 obtain ⟨i1,i2⟩:=Lt h0 h.fin 13 A L hA hk h2
 rw [←hr] at i1 i2
 rw [h.len] at i1
 have hs:=h.lev L i1
 rw [i2] at hs
 have hw:1<=A*2 ^ L:=Nat.mul_pos hA (Nat.two_pow_pos _)
 obtain ⟨c,c1,c2,c3,c4⟩:=Lr (w:=A*2 ^ L) hw h.fin
 have hIc:I<c:=by
  rcases Nat.lt_or_ge I c with h | h
  ·exact h
  ·have:=Nat.mul_le_mul_right (A*2 ^ L) h;omega
 have hlen:=hs.len
 refine ⟨i1,by unfold nj;omega,?_⟩
 have:=c4 I hIc
 rw [show (I+1)*(A*2 ^ L)=I*(A*2 ^ L)+A*2 ^ L from Nat.succ_mul _ _,h1,Nat.min_comm] at this
 exact this.congr (hs.Jr.get (by omega)) (hs.Jr.get (by omega)) (hs.key _ (by omega)) (hs.key _ (by omega))
theorem Yg {f:Nat->Int} {a b:Option Nat} {lo hi:Nat} (h:Std f a b lo hi):Std f (gJ (az a) (az b)) (gV (az a) (az b)) lo hi:=by
 obtain ⟨h1,h2,⟨k,h3,h4,h5⟩,_,h6⟩:=id h
 have OJ:=h6 k h3 h4
 obtain ⟨_,m1,m2⟩:=oH (bn h1) (bn h2)
 obtain ⟨_,n1,n2⟩:=oI (bn h1) (bn h2)
 rw [p_ h1,p_ h2] at m2 n2
 exact h.congr m1 n1 (by omega) (by omega)
theorem qf {xs:List (Option Nat)} {A m:Nat} {ls:List AV} (h:ke xs A m ls) {at_:Nat} {r:Int × Int × Int} (ha:at_<xs.length) (hr:oY A xs.length at_ r):
  Std (bF xs) (ca xs ls r.1 r.2.1).1 (ca xs ls r.1 r.2.1).2 at_ r.2.2.toNat/\(at_:Int)<r.2.2/\r.2.2<=xs.length:=by
 unfold ca
 rcases hr with ⟨e1,e2,e3⟩ | ⟨L,I,e1,e2,e3,e4,e5⟩
 ·rw [e1,e2,e3,if_pos (by omega)]
  exact ⟨Std.single (h.fin.get ha),by omega,by omega⟩
 ·rw [e1,e2,e4,if_neg (by omega)]
  obtain ⟨_,_,h3⟩:=Lu h ha e3 e5
  have hw:1<=A*2 ^ L:=Nat.mul_pos h.one (Nat.two_pow_pos _)
  exact ⟨Yg h3,by omega,by omega⟩
def GO (xs:List (Option Nat)) (ls:List AV) (a n to:Int):Nat->Int->Option Nat × Option Nat->Option Nat × Option Nat
 | 0,_,p=>p
 | k+1,at_,p=>if at_<to then GO xs ls a n to k (dq n to at_ 14 0 a (-1,at_,at_+1)).2.2
   (gJ p.1 (ca xs ls (dq n to at_ 14 0 a (-1,at_,at_+1)).1 (dq n to at_ 14 0 a (-1,at_,at_+1)).2.1).1,gV p.2 (ca xs ls (dq n to at_ 14 0 a (-1,at_,at_+1)).1 (dq n to at_ 14 0 a (-1,at_,at_+1)).2.1).2) else p
theorem Std.Qt {f:Nat->Int} {a b c d:Option Nat} {lo mid hi:Nat} (h:Std f a b lo mid) (h':Std f c d lo hi) (hm:mid<=hi):Std f (gJ a c) (gV b d) lo hi:=by
 obtain ⟨h1,h2,⟨k1,h3,h4,h5⟩,⟨k2,h6,h7,h8⟩,h9⟩:=h
 obtain ⟨g1,g2,⟨j1,g3,g4,g5⟩,⟨j2,g6,g7,g8⟩,g9⟩:=h'
 obtain ⟨_,m2,m3⟩:=oH h1 g1
 obtain ⟨_,n2,n3⟩:=oI h2 g2
 have q1:=g9 k1 h3 (by omega)
 have q2:=g9 k2 h6 (by omega)
 refine ⟨m2,n2,⟨j1,g3,g4,by omega⟩,⟨j2,g6,g7,by omega⟩,fun k SC iC=>?_⟩
 have:=g9 k SC iC
 omega
theorem kj {A n at_:Nat} {to:Int}:oY A n at_ (dq (n:Int) to (at_:Int) 14 0 (A:Int) (-1,(at_:Int),(at_:Int)+1)):=by
 have:=C2 (A:=A) (n:=n) (at_:=at_) (to:=to) 14 0 (-1,(at_:Int),(at_:Int)+1) (.inl rfl) (.inl ⟨rfl,rfl,by show (at_:Int)+1=_;omega⟩)
 simpa using this
theorem Qu {xs:List (Option Nat)} {A m f t:Nat} {ls:List AV} (h:ke xs A m ls) (ht:t<=xs.length):∀ (k:Nat) (at_:Nat) (p:Option Nat × Option Nat),f<=at_->at_<=t->t<at_+k->Std (bF xs) p.1 p.2 f (max at_ (f+1))->
  Std (bF xs) (GO xs ls A xs.length t k at_ p).1 (GO xs ls A xs.length t k at_ p).2 f (max t (f+1))
 | 0,at_,p,h1,h2,h3,h4=>by omega
 | k+1,at_,p,h1,h2,h3,h4=>by
  rw [GO]
  by_cases cC:at_<t
  ·rw [if_pos (by omega)]
   have hb:=ki (a:=(A:Int)) (n:=(xs.length:Int)) (to:=(t:Int)) (at_:=(at_:Int)) (by omega) (by omega) (by omega) (by have:=h.one;omega) _ rfl
   have hn:=kj (A:=A) (n:=xs.length) (at_:=at_) (to:=(t:Int))
   generalize dq (xs.length:Int) (t:Int) (at_:Int) 14 0 (A:Int) (-1,(at_:Int),(at_:Int)+1)=r at hb hn
   obtain ⟨v1,v2,v3⟩:=qf h (by omega) hn
   obtain ⟨_,b1,b2,_⟩:=hb
   obtain ⟨E,hE⟩:=Int.eq_ofNat_of_zero_le (show 0<=r.2.2 by omega)
   rw [hE]
   rw [hE] at v1 b1 b2
   rw [Int.toNat_natCast] at v1
   refine Qu h ht k E _ (by omega) (by omega) (by omega) ?_
   rw [Nat.max_eq_left (by omega)]
   by_cases hf:at_=f
   ·subst hf
    rw [Nat.max_eq_right (by omega)] at h4
    exact h4.Qt v1 (by omega)
   ·rw [Nat.max_eq_left (by omega)] at h4
    exact h4.join v1
  ·rw [if_neg (by omega)]
   have:at_=t:=by omega
   subst this
   exact h4
def Cj (xs:List (Option Nat)) (ls:List AV) (a n f t:Int):Option Nat × Option Nat:=
 GO xs ls a n t 4097 f (az (xs.getD f.toNat none),az (xs.getD f.toNat none))
theorem UO {xs:List (Option Nat)} {A m f t:Nat} {ls:List AV} (h:ke xs A m ls) (hft:f<t) (ht:t<=xs.length):Std (bF xs) (Cj xs ls A xs.length f t).1 (Cj xs ls A xs.length f t).2 f t:=by
 have UA:=h.UB
 have:=Qu (f:=f) h ht 4097 f (az (xs.getD f none),az (xs.getD f none)) (Nat.le_refl _) (by omega) (by omega) (by rw [Nat.max_eq_right (by omega)];exact Std.single (h.fin.get (by omega)))
 rw [Nat.max_eq_left (by omega)] at this
 unfold Cj
 rw [Int.toNat_natCast]
 exact this
theorem Nx {xs:List (Option Nat)} {A m f t at_:Nat} {ls:List AV} (h:ke xs A m ls) {p:Option Nat × Option Nat} {L I E:Int} (hn:oY A xs.length at_ (L,I,E)) (h1:f<=at_) (ha:at_<t) (ht:t<=xs.length) (hE:E<=t)
  (hp:Std (bF xs) p.1 p.2 f (max at_ (f+1))):
  ∃ En:Nat,E=(En:Int)/\at_<En/\En<=t/\Std (bF xs) (gJ p.1 (ca xs ls L I).1) (gV p.2 (ca xs ls L I).2) f (max En (f+1)):=by
 obtain ⟨v1,v2,v3⟩:=qf h (by omega) hn
 dsimp only at v1 v2 v3
 obtain ⟨En,rfl⟩:=Int.eq_ofNat_of_zero_le (show 0<=E by omega)
 rw [Int.toNat_natCast] at v1
 refine ⟨En,rfl,by omega,by omega,?_⟩
 rw [Nat.max_eq_left (by omega)]
 by_cases hf:at_=f
 ·subst hf
  rw [Nat.max_eq_right (by omega)] at hp
  exact hp.Qt v1 (by omega)
 ·rw [Nat.max_eq_left (by omega)] at hp
  exact hp.join v1
theorem qg {xs:List (Option Nat)} {A m at_:Nat} {ls:List AV} {E:List PE} (h:ke xs A m ls) (hE:kg (nj ls) (OK ls) E m 0) {L I X:Int} (hn:oY A xs.length at_ (L,I,X)) (ha:at_<xs.length):
  aJ (ca xs ls L I).1=true/\aJ (ca xs ls L I).2=true/\((L<0/\I=(at_:Int)/\X=((at_+1:Nat):Int)/\ca xs ls L I=(az (xs.getD at_ none),az (xs.getD at_ none)))\/
  (¬ L<0/\iq Tryz.prog 130 62 (.agg [.int .i64 L,.int .i64 I]) (dj 0 E)=some (true,.agg [.aL .f32 (ca xs ls L I).1,.aL .f32 (ca xs ls L I).2]))):=by
 obtain ⟨v1,v2,v3⟩:=qf h ha hn
 refine ⟨v1.1,v1.2.1,?_⟩
 rcases hn with ⟨e1,e2,e3⟩ | ⟨a,b,e1,e2,e3,e4,e5⟩
 ·dsimp only at e1 e2 e3
  subst e1 e2
  refine .inl ⟨by omega,rfl,e3,?_⟩
  unfold ca
  rw [if_pos (by omega),Int.toNat_natCast]
 ·dsimp only at e1 e2 e4
  subst e1 e2
  obtain ⟨i1,i2,_⟩:=Lu h ha e3 e5
  refine .inr ⟨by omega,?_⟩
  have:=hE.look i1 i2
  unfold ca
  rw [if_neg (by omega),Int.toNat_natCast,Int.toNat_natCast]
  exact this
theorem zR {E:List PE} {ls:List AV} {i j:Nat} (h:kg (nj ls) (OK ls) E i j) {ds:List (Option Nat)} (hd:fu ls i=ds):
  GW Tryz.prog 130 (.agg [.int .i64 (i:Int),.int .i64 (j:Int)]) (.agg [.aL .f32 (gJ (az (ds.getD (2*j) none)) (az (ds.getD (2*j+1) none))),.aL .f32 (gV (az (ds.getD (2*j) none)) (az (ds.getD (2*j+1) none)))]) (dj 0 E) E.length=
  some (dj 0 (E++[(((i:Int),(j:Int)),OK ls i j)]),(E++[(((i:Int),(j:Int)),OK ls i j)]).length):=by
 have:=Qr (v:=OK ls i j) h.fresh
 subst hd
 exact this
theorem gG (cs:List AV):asAgg (.agg cs)=some cs:=rfl
theorem lL (o:Option Nat):aq .f32 (.aL .f32 o)=some o:=rfl
end Go.Abs
end
set_option maxRecDepth 100000
noncomputable section
namespace Go.Abs
open Go.Proofs Classical Go.Abs.Fin
def aF (p:Nat->Bool):Nat->Nat->Int
 | 0,_=>-1
 | k+1,i=>if p i=true then (i:Int) else aF p k (i+1)
theorem w7 {p:Nat->Bool}:∀ (d k i:Nat),(∀ j,i<=j->j<i+d->p j=false)->aF p (d+k) i=aF p k (i+d)
 | 0,k,i,_=>by rw [Nat.zero_add,Nat.add_zero]
 | d+1,k,i,h=>by
  have e:d+1+k=(d+k)+1:=by omega
  have e2:i+(d+1)=i+1+d:=by omega
  rw [e,aF,h i (Nat.le_refl _) (by omega),if_neg (by decide),w7 d k (i+1) (fun j h1 h2=>h j (by omega) (by omega)),e2]
theorem br {p:Nat->Bool} {n at_ En:Nat} (h1:at_<=En) (h2:En<=n) (h:∀ j,at_<=j->j<En->p j=false):aF p (n-at_) at_=aF p (n-En) En:=by
 have:=w7 (p:=p) (En-at_) (n-En) at_ (fun j a b=>h j a (by omega))
 rwa [show En-at_+(n-En)=n-at_ by omega,show at_+(En-at_)=En by omega] at this
theorem cq {p:Nat->Bool} {n at_:Nat} (h1:at_<n) (h:p at_=true):aF p (n-at_) at_=(at_:Int):=by
 obtain ⟨k,hk⟩:∃ k,n-at_=k+1:=⟨n-at_-1,by omega⟩
 rw [hk,aF,if_pos h]
theorem kh {p:Nat->Bool} {n at_:Nat} (h1:n<=at_):aF p (n-at_) at_=-1:=by
 rw [show n-at_=0 by omega,aF]
def dp (r:Int):Option (List aa):=some [.v (.int .i64 (if r<0 then 0 else r)),.v (.int .i64 (if r<0 then 7 else 0))]
def dP (a o:Option Nat):Bool:=aM .f32 a o==some .gt||aM .f32 a o==some .eq
def mj (a o:Option Nat):Bool:=aM .f32 a o==some .eq
theorem nm {a o:Option Nat} (ha:aJ a=true) (ho:aJ o=true):dP a o=decide (aU o<=aU a):=by
 unfold dP
 rw [bgt ha ho,M1 ha ho,←Bool.decide_or]
 exact decide_eq_decide.2 (by omega)
theorem Ew {a o:Option Nat} (ha:aJ a=true) (ho:aJ o=true):mj a o=decide (aU a=aU o):=by
 unfold mj
 rw [M1 ha ho]
theorem V8 {xs:List (Option Nat)} {a b o:Option Nat} {at_ En:Nat} (hf:cG xs) (h:Std (bF xs) a b at_ En) (ho:aJ o=true) (hle:En<=xs.length) (hb:dP b o=false):
  ∀ j,at_<=j->j<En->dP (xs.getD j none) o=false:=by
 intro j h1 h2
 have hj:=(h.2.2.2.2 j h1 h2).2
 have f:=hf.get (i:=j) (by omega)
 rw [nm h.2.1 ho] at hb
 rw [nm f ho]
 have:=of_decide_eq_false hb
 unfold bF at hj
 exact decide_eq_false (by omega)
def bA (xs:List (Option Nat)) (o:Option Nat) (j:Nat):Bool:=decide (0<j)&&((aM .f32 (xs.getD (j-1) none) o==some .lt)&&dP (xs.getD j none) o)
theorem gi {xs:List (Option Nat)} {o:Option Nat} {j:Nat} (h:(aM .f32 (xs.getD j none) o==some .lt)=false\/dP (xs.getD (j+1) none) o=false):bA xs o (j+1)=false:=by
 unfold bA
 rw [Nat.add_sub_cancel]
 rcases h with h | h
 ·rw [h,Bool.false_and,Bool.and_false]
 ·rw [h,Bool.and_false,Bool.and_false]
theorem mJ {xs:List (Option Nat)} {o:Option Nat} {j:Nat} (h:(aM .f32 (xs.getD j none) o==some .lt)=true) (h2:dP (xs.getD (j+1) none) o=true):bA xs o (j+1)=true:=by
 unfold bA
 rw [Nat.add_sub_cancel,h,h2,decide_eq_true (by omega)]
 rfl
theorem UD {xs:List (Option Nat)} {a b o:Option Nat} {at_ En:Nat} (hf:cG xs) (h:Std (bF xs) a b at_ En) (ho:aJ o=true) (hle:En<=xs.length) (hb:dP b o=false):
  ∀ j,at_<=j->j<En->bA xs o j=false:=by
 intro j h1 h2
 unfold bA
 rw [V8 hf h ho hle hb j h1 h2,Bool.and_false,Bool.and_false]
theorem ab_ {xs:List (Option Nat)} {a b o a':Option Nat} {at_ En t:Nat} (hf:cG xs) (h:Std (bF xs) a b at_ En) (ho:Std (bF xs) a' o 0 t) (hle:En<=t) (ht:t<=xs.length) (hb:mj b o=false):
  ∀ j,at_<=j->j<En->mj (xs.getD j none) o=false:=by
 intro j h1 h2
 have hj:=(h.2.2.2.2 j h1 h2).2
 have xB:=(ho.2.2.2.2 j (by omega) (by omega)).2
 obtain ⟨i,i1,i2,i3⟩:=h.2.2.2.1
 have hi:=(ho.2.2.2.2 i (by omega) (by omega)).2
 have f:=hf.get (i:=j) (by omega)
 rw [Ew h.2.1 ho.2.1] at hb
 rw [Ew f ho.2.1]
 have:=of_decide_eq_false hb
 unfold bF at hj xB hi i3
 exact decide_eq_false (by omega)
theorem rp {A n at_:Nat} {L I E:Int} (hA:1<=A) (hAm:A<=4096) (WG:at_<n) (hn:n<=4096) (hN:oY A n at_ (L,I,E)) (hL:0<=L):
  IntKind.i64.wrap (IntKind.i64.wrap (I*(A:Int))*(2:Int) ^ min L.toNat 64)=(at_:Int):=by
 rcases hN with ⟨e1,e2,e3⟩ | ⟨a,b,e1,e2,e3,e4,e5⟩
 ·dsimp only at e1;omega
 ·dsimp only at e1 e2
  subst e1 e2
  have p:1<=2 ^ a:=Nat.two_pow_pos a
  have hb:b*A<=at_:=by
   rw [←e3,←Nat.mul_assoc];exact Nat.le_mul_of_pos_right _ p
  have ha:a<=64:=by
   rcases e5 with rfl | h
   ·omega
   ·apply Nat.le_of_lt_succ
    apply Classical.byContradiction
    intro hc
    have h64:2 ^ 64<=2 ^ (a-1):=Nat.pow_le_pow_right (by omega) (by omega)
    have:=Nat.mul_le_mul hA h64
    omega
  rw [Int.toNat_natCast,Nat.min_eq_left ha]
  have q1:((b:Int)*(A:Int))=((b*A:Nat):Int):=by simp
  rw [q1,wrap64 (z:=((b*A:Nat):Int)) (by omega) (by omega)]
  have q2:((b*A:Nat):Int)*(2:Int) ^ a=((at_:Nat):Int):=by
   rw [←e3,←Nat.mul_assoc];simp
  rw [q2,wrap64 (by omega) (by omega)]
end Go.Abs
end
set_option maxRecDepth 100000
noncomputable section
namespace Go.Abs
open Go.Proofs Classical Go.Abs.Fin
theorem bm {R:Type} {b:Bool} {x y:Option R} {z:Option R} (h:b=true) (e:x=z):cO b x y=z:=by rw [h,←e];rfl
theorem bS {R:Type} {b:Bool} {x y:Option R} {z:Option R} (h:b=false) (e:y=z):cO b x y=z:=by rw [h,←e];rfl
def cw (n:Nat) (xs:List (Option Nat)) (b:Int) (m:Nat) (ls:List AV) (f:Int) (o:Option Nat):Int:=
 if iK n xs b m ls=0 then (if (if f<0\/f>(n:Int) then (3:Int) else 0)=0 then (if (!aJ o)=true then (1:Int) else 0) else (if f<0\/f>(n:Int) then (3:Int) else 0)) else iK n xs b m ls
def qF (e r:Int):Int:=if e=0 then (if r<0 then 0 else r) else 0
def qe (e r:Int):Int:=if e=0 then (if r<0 then 7 else 0) else e
theorem CY {n m:Nat} {xs:List (Option Nat)} {b f:Int} {o:Option Nat} {ls:List AV} (hn:xs.length=n) (h:cw n xs b m ls f o=0):
  ∃ A F:Nat,b=(A:Int)/\f=(F:Int)/\F<=n/\aJ o=true/\ke xs A m ls:=by
 unfold cw at h
 split at h
 ·rename_i hc
  obtain ⟨A,rfl,hT⟩:=Ep hn hc
  by_cases hf:f<0\/f>(n:Int)
  ·rw [if_pos hf,if_neg (by decide)] at h;cases h
  ·rw [if_neg hf,if_pos rfl] at h
   obtain ⟨F,rfl⟩:=Int.eq_ofNat_of_zero_le (show 0<=f by omega)
   refine ⟨A,F,rfl,rfl,by omega,?_,hT⟩
   cases ho:aJ o with
   | true=>rfl
   | false=>rw [ho] at h;cases h
 ·rename_i hc;exact absurd h hc
theorem Uz {n m N:Nat} {cs ls:List AV} {b f:Int} {o:Option Nat} (h:bu n cs) (h':qd m ls) (hN:n+m+5020<N):
  (dA Lp nP N 12).call (List aa) 45 [.aT (.list n cs),.s (.agg [.b (.int .i64 b),.b (.list m ls)]),.aT (.int .i64 f),.aT (.aL .f32 o)] [] (bp [false,false])=
  some [.v (.int .i64 (qF (cw n (fO cs) b m ls f o) (aF (fun j=>dP ((fO cs).getD j none) o) (n-f.toNat) f.toNat))),.v (.int .i64 (qe (cw n (fO cs) b m ls f o) (aF (fun j=>dP ((fO cs).getD j none) o) (n-f.toNat) f.toNat)))]:=by
 rw [X4]
 have hl:=h'.2.1
 have hm:=h'.1
 have CX:=h.len
 have xW:=h.2.2
 have H9:0<N:=by omega
 simp only [ab,aj,h,h',Ln,Eg,qa,and_self,if_true,cr]
 change ite (cw n (fO cs) b m ls f o=0) _ _=_
 by_cases h0:cw n (fO cs) b m ls f o=0
 case neg=>
  unfold qF qe
  rw [if_neg h0,if_neg h0,if_neg h0]
  rfl
 rw [if_pos h0,h0]
 obtain ⟨A,F,rfl,rfl,hFn,ho,hT⟩:=CY CX h0
 have hA1:=hT.one
 have hA2:=hT.X5
 have UA:=hT.UB
 clear h0
 rw [Int.toNat_natCast]
 change _=dp (aF (fun j=>dP ((fO cs).getD j none) o) (n-F) F)
 refine au (fun k (r:Nat->List AV->Int->Int->Nat->List AV->Int->Nat->List AV->Option Nat->Int->Nat->List AV->Nat->List AV->Int->Nat->List AV->Nat->List AV->Int->List (AV × AV × Nat)->Nat->Nat->List AV->Nat->List AV->Int->Option (List aa))=>∀ (i:Nat) (E:List PE) (pc:List AV),i+k=m->kg (nj ls) (OK ls) E i 0->
  r m ls (m:Int) (i:Int) (n) (cs) (A:Int) (m) (ls) (o) (A:Int) (m) (ls) (3) pc (A:Int) (m) (ls) (0) ([]) ((0:Int)) (dj 0 E) E.length (0) ([]) (n) (cs) (A:Int)=dp (aF (fun j=>dP ((fO cs).getD j none) o) (n-F) F)) ?_ N m (by omega) 0 [] _ (by omega) kg.nil
 intro k r ih i E pc hi hE
 by_cases hk:i<m
 ·obtain ⟨q,ds,e1,e2,e3⟩:=h'.get hk
  have eL:=lK e1
  have p0:0<ls.length:=by omega
  have wi:IntKind.i64.wrap ((i:Int)+1)=((i+1:Nat):Int):=by rw [wrap64]<;>omega
  have hle:=e2.len
  have hdl:=e2.2.2
  have hq:nj ls i=q:=by unfold nj;rw [eL];omega
  have dg:=(hT.lev i hk).Jr
  rw [eL] at dg
  simp only [ae,aj,Int.ofNat_lt,hk,p0,if_true,Int.natCast_nonneg,true_and,and_true,Int.toNat_natCast,Nat.mul_one,e1,cJ,ak]
  refine au (fun k2 (r2:Int->Nat->List AV->Int->Int->Nat->List AV->Int->Int->Nat->List AV->Int->Nat->List AV->Option Nat->Int->Nat->List AV->Nat->List AV->Int->Nat->List AV->Nat->List AV->Int->List (AV × AV × Nat)->Nat->Nat->List AV->Nat->List AV->Int->Option (List aa))=>∀ (j:Nat) (E:List PE),j+k2=q->kg (nj ls) (OK ls) E i j->
   r2 (i:Int) m ls (m:Int) (i:Int) q ds (q:Int) (j:Int) (n) (cs) (A:Int) (m) (ls) (o) (A:Int) (m) (ls) (3) pc (A:Int) (m) (ls) (0) ([]) ((0:Int)) (dj 0 E) E.length (0) ([]) (n) (cs) (A:Int)=dp (aF (fun j=>dP ((fO cs).getD j none) o) (n-F) F)) ?_ N q (by omega) 0 E (by omega) hE
  intro k2 r2 tr j E hj hE
  by_cases iC:j<q
  ·have GJ:=e2.get (i:=2*j) (by omega)
   have GK:=e2.get (i:=2*j+1) (by omega)
   have wj:IntKind.i64.wrap ((j:Int)+1)=((j+1:Nat):Int):=by rw [wrap64]<;>omega
   have q0:0<ds.length:=by omega
   have q1:(2*j+2<=ds.length)=True:=eq_true (by omega)
   have GL:j*2=2*j:=by omega
   have f1:=bn (dg.get (i:=2*j) (by omega))
   have f2:=bn (dg.get (i:=2*j+1) (by omega))
   have gI:=zR hE eL
   simp only [ae,aj,Int.ofNat_lt,iC,q0,q1,if_true,Int.natCast_nonneg,true_and,and_true,Int.toNat_natCast,GL,GJ,GK,ak,f1,f2,and_self,gI,wj]
   exact tr (k2-1) (by omega) (j+1) _ (by omega) hE.step
  ·have:j=nj ls i:=by omega
   subst this
   simp only [ae,Int.ofNat_lt,iC,if_false,wi]
   exact ih (k-1) (by omega) (i+1) E _ (by omega) hE.next
 have Nv:i=m:=by omega
 simp only [ae,Int.ofNat_lt,hk,if_false]
 rw [Nv] at hE
 clear ih hi hk Nv
 refine au (fun k (r:Int->Nat->List AV->Int->Nat->List AV->Option Nat->Int->Nat->List AV->Nat->List AV->Int->Nat->List AV->Nat->List AV->Nat->List AV->Int->List (AV × AV × Nat)->Nat->Nat->List AV->Nat->List AV->Int->Nat->List AV->Int->Int->Int->Int->Int->Int->Option (List aa))=>∀ (at_:Nat),F<=at_->at_<=n->n<at_+k->
  r (at_:Int) ((n)) ((cs)) ((A:Int)) ((m)) ((ls)) ((o)) ((A:Int)) ((m)) ((ls)) ((3)) (pc) ((A:Int)) ((m)) ((ls)) ((0)) (([])) ((n)) ((cs)) ((A:Int)) ((dj 0 E)) (E.length) ((0)) (([])) ((n)) ((cs)) ((A:Int)) ((n)) ((cs)) ((A:Int)) ((-1:Int)) ((A:Int)) ((↑(n):Int)) (F:Int) ((↑(n):Int))=dp (aF (fun j=>dP ((fO cs).getD j none) o) (n-at_) at_)) ?_ N 4098 (by omega) F (by omega) (by omega) (by omega)
 intro k r ih at_ ha1 V4 hk
 obtain ⟨k,rfl⟩:∃ k',k=k' + 1:=⟨k-1,by omega⟩
 try simp only [ae]
 by_cases cC:at_<n
 case neg=>
  have Fx:¬ ((at_:Int)<(n:Int)):=by omega
  rw [if_neg Fx,kh (by omega)]
  rfl
 have KX:(at_:Int)<(n:Int):=by omega
 rw [if_pos KX]
 have hb:=ki (a:=(A:Int)) (n:=(n:Int)) (to:=(n:Int)) (at_:=(at_:Int)) (by omega) (by omega) (by omega) (by omega) _ rfl
 have fT:=kj (A:=A) (n:=n) (at_:=at_) (to:=(n:Int))
 generalize hr:dq (n:Int) (n:Int) (at_:Int) 14 0 (A:Int) (-1,(at_:Int),(at_:Int)+1)=res at hb fT
 obtain ⟨_,ye,BY,_⟩:=hb
 have Lq:at_<n:=by omega
 have ly:0<cs.length:=by omega
 have V7:∀ (L I X:Int),(L,I,X)=res->L>=0->IntKind.i64.wrap (IntKind.i64.wrap (I*(A:Int))*(2:Int) ^ min L.toNat 64)=(at_:Int):=by
  intro L I X e hL
  subst e
  exact rp (by omega) (by omega) Lq (by omega) fT hL
 rw [←CX] at fT
 have fin:∀ (L I E':Int),(L,I,E')=res->∃ En:Nat,E'=(En:Int)/\at_<En/\En<=n/\(dP (ca (fO cs) ls L I).2 o=false->∀ j,at_<=j->j<En->(fun j=>dP ((fO cs).getD j none) o) j=false):=by
  intro L I E' e
  subst e
  obtain ⟨v1,v2,v3⟩:=qf hT (by omega) fT
  dsimp only at v1 v2 v3
  obtain ⟨En,rfl⟩:=Int.eq_ofNat_of_zero_le (show 0<=E' by omega)
  rw [Int.toNat_natCast] at v1
  exact ⟨En,rfl,by omega,by omega,V8 hT.fin v1 ho (by omega)⟩
 have look:∀ (L I X:Int),(L,I,X)=res->aJ (ca (fO cs) ls L I).1=true/\aJ (ca (fO cs) ls L I).2=true/\((L<0/\I=(at_:Int)/\X=((at_+1:Nat):Int)/\ca (fO cs) ls L I=(az ((fO cs).getD at_ none),az ((fO cs).getD at_ none)))\/
   (¬ L<0/\iq Tryz.prog 130 62 (.agg [.int .i64 L,.int .i64 I]) (dj 0 E)=some (true,.agg [.aL .f32 (ca (fO cs) ls L I).1,.aL .f32 (ca (fO cs) ls L I).2]))):=by
  intro L I X e
  subst e
  exact qg hT hE fT (by omega)
 have X6:IntKind.i64.wrap ((at_:Int)+1)=(at_:Int)+1:=wrap64 (by omega) (by omega)
 rw [X6]
 refine au (fun mm (r2:Int->Int->Int->Int->Nat->List AV->Int->Nat->List AV->Option Nat->Int->Nat->List AV->Nat->List AV->Int->Nat->List AV->Nat->List AV->Nat->List AV->Int->List (AV × AV × Nat)->Nat->Nat->List AV->Nat->List AV->Int->Nat->List AV->Int->Int->Int->Int->Int->Int->Int->Int->Option (List aa))=>∀ (l s c1 c2 c3:Int),0<=l->l+mm<=13->1<=s->s<=8192->(n:Int)<s*2 ^ mm->dq (n:Int) (n:Int) (at_:Int) (mm+1) l s (c1,c2,c3)=res->
  r2 (at_:Int) c3 l s (((n))) (((cs))) (((A:Int))) (((m))) (((ls))) (((o))) (((A:Int))) (((m))) (((ls))) (((3))) ((pc)) (((A:Int))) (((m))) (((ls))) (((0))) ((([]))) (((n))) (((cs))) (((A:Int))) (((dj 0 E))) ((E.length)) (((0))) ((([]))) (((n))) (((cs))) (((A:Int))) (((n))) (((cs))) (((A:Int))) (((-1:Int))) (((A:Int))) (((↑(n):Int))) ((F:Int)) (((↑(n):Int))) c1 c2=dp (aF (fun j=>dP ((fO cs).getD j none) o) (n-at_) at_)) ?_ N 13 (by omega) 0 (A:Int) (-1) (at_:Int) ((at_:Int)+1) (by omega) (by omega) (by omega) (by omega) (by omega) hr
 intro mm r2 tr l s c1 c2 c3 F6 hlm B0 CE Qf jq
 have w1:IntKind.i64.wrap ((at_:Int)+s)=(at_:Int)+s:=wrap64 (by omega) (by omega)
 have w2:IntKind.i64.wrap (l+1)=l+1:=wrap64 (by omega) (by omega)
 have w3:IntKind.i64.wrap (2*s)=2*s:=wrap64 (by omega) (by omega)
 have w4:(at_:Int).tmod s=(at_:Int)%s:=Int.tmod_eq_emod_of_nonneg (by omega)
 have w5:(at_:Int).tdiv s=(at_:Int) / s:=Int.tdiv_eq_ediv_of_nonneg (by omega)
 have w6:IntKind.i64.wrap ((at_:Int) / s)=(at_:Int) / s:=by
  have:=Int.ediv_le_self s (show (0:Int)<=(at_:Int) by omega)
  have:=Int.ediv_nonneg (show (0:Int)<=(at_:Int) by omega) (show 0<=s by omega)
  rw [wrap64 (by omega) (by omega)]
 have nz:(s≠0)=True:=eq_true (by omega)
 simp only [ae,aj,nz,if_true,w1,w2,w3,w4,w5,w6,qb,oK,ak]
 rw [dq] at jq
 by_cases bw:(at_:Int)%s=0/\min (n:Int) ((at_:Int)+s)<=(n:Int)
 ·have e1:(((at_:Int)%s==0)&&decide (min (n:Int) ((at_:Int)+s)<=(n:Int)))=true:=by rw [bw.1,decide_eq_true bw.2];rfl
  rw [e1,ct]
  rw [if_pos bw] at jq
  by_cases hn:(n:Int)<=s
  ·rw [if_pos hn] at jq
   rw [if_pos (show s>=(n:Int) from hn)]
   obtain ⟨En,Js,s1,s2,s3⟩:=fin _ _ _ jq
   rw [Js]
   have mC:=ih k (by omega) En (by omega) (by omega) (by omega)
   have sz:En<9223372036854775808:=by omega
   have Qg:=V7 _ _ _ jq
   obtain ⟨g1,g2,⟨g3,g4,g6,g5⟩ | ⟨g3,g5⟩⟩:=look _ _ _ jq
   ·have Jt:=h.get (i:=at_) (by omega)
    have fz:=bn (hT.fin.get (i:=at_) (by omega))
    have g7:¬ (l>=0):=by omega
    simp only [ae,g3,g4,g7,if_true,if_false,aj,Int.natCast_nonneg,Int.ofNat_lt,Lq,ly,and_self,Int.toNat_natCast,Nat.mul_one,Jt,ak,bP H9,fz]
    by_cases hv:dP (ca (fO cs) ls l ((at_:Int) / s)).2 o=true
    ·have ey:=hv
     rw [g5] at ey
     refine bS (congrArg not ey) ?_
     refine au (fun k3 (r3:Int->Int->Nat->List AV->Int->Nat->List AV->Option Nat->Int->Nat->List AV->Nat->List AV->Int->Nat->List AV->Nat->List AV->Nat->List AV->Int->List (AV × AV × Nat)->Nat->Nat->List AV->Nat->List AV->Int->Nat->List AV->Int->Int->Int->Int->Int->Int->Int->Int->Int->Int->Option (List aa))=>∀ (j:Nat) (y1 y2 y3 y4:Int),j+k3=En->
      r3 (En:Int) (j:Int) (((n))) (((cs))) (((A:Int))) (((m))) (((ls))) (((o))) (((A:Int))) (((m))) (((ls))) (((3))) ((pc)) (((A:Int))) (((m))) (((ls))) (((0))) ((([]))) (((n))) (((cs))) (((A:Int))) (((dj 0 E))) ((E.length)) (((0))) ((([]))) (((n))) (((cs))) (((A:Int))) (((n))) (((cs))) (((A:Int))) (((-1:Int))) (((A:Int))) (((↑(n):Int))) ((F:Int)) (((↑(n):Int))) y1 y2 y3 y4=dp (aF (fun j=>dP ((fO cs).getD j none) o) (n-j) j)) ?_ N (En-at_) (by omega) at_ _ _ _ _ (by omega)
     intro k3 r3 zS j y1 y2 y3 y4 hj
     by_cases mz:j<En
     ·have zT:=h.get (i:=j) (by omega)
      have lr:j<n:=by omega
      have wj:IntKind.i64.wrap ((j:Int)+1)=((j+1:Nat):Int):=by rw [wrap64]<;>omega
      simp only [ae,aj,Int.natCast_nonneg,Int.ofNat_lt,mz,lr,ly,and_self,if_true,Int.toNat_natCast,Nat.mul_one,zT,ak,wj]
      by_cases hp:(fun j=>dP ((fO cs).getD j none) o) j=true
      ·rw [cq lr hp]
       exact bm hp rfl
      ·have hp:(fun j=>dP ((fO cs).getD j none) o) j=false:=by simpa using hp
       rw [br (En:=j+1) (by omega) (by omega) (fun i a b=>by (have q:i=j:=by omega);subst q;exact hp)]
       exact bS hp (zS (k3-1) (by omega) (j+1) _ _ _ _ (by omega))
     ·have:j=En:=by omega
      subst this
      simp only [ae,Int.ofNat_lt,mz,if_false]
      exact mC
    ·have ey:dP (ca (fO cs) ls l ((at_:Int) / s)).2 o=false:=by simpa using hv
     have hs:=br (p:=(fun j=>dP ((fO cs).getD j none) o)) (Nat.le_of_lt s1) s2 (s3 ey)
     rw [g5] at ey
     rw [hs]
     exact bm (congrArg not ey) mC
   ·have g7:l>=0:=by omega
    have g8:=Qg g7
    simp only [ae,g3,if_false,g5,ak,gG,List.length_cons,List.length_nil,aj,if_true,List.getD_cons_zero,List.tail_cons,lL,bP H9,g7,g8,and_self]
    by_cases hv:dP (ca (fO cs) ls l ((at_:Int) / s)).2 o=true
    ·refine bS (congrArg not hv) ?_
     refine au (fun k3 (r3:Int->Int->Nat->List AV->Int->Nat->List AV->Option Nat->Int->Nat->List AV->Nat->List AV->Int->Nat->List AV->Nat->List AV->Nat->List AV->Int->List (AV × AV × Nat)->Nat->Nat->List AV->Nat->List AV->Int->Nat->List AV->Int->Int->Int->Int->Int->Int->Int->Int->Int->Int->Option (List aa))=>∀ (j:Nat) (y1 y2 y3 y4:Int),j+k3=En->
      r3 (En:Int) (j:Int) (((n))) (((cs))) (((A:Int))) (((m))) (((ls))) (((o))) (((A:Int))) (((m))) (((ls))) (((3))) ((pc)) (((A:Int))) (((m))) (((ls))) (((0))) ((([]))) (((n))) (((cs))) (((A:Int))) (((dj 0 E))) ((E.length)) (((0))) ((([]))) (((n))) (((cs))) (((A:Int))) (((n))) (((cs))) (((A:Int))) (((-1:Int))) (((A:Int))) (((↑(n):Int))) ((F:Int)) (((↑(n):Int))) y1 y2 y3 y4=dp (aF (fun j=>dP ((fO cs).getD j none) o) (n-j) j)) ?_ N (En-at_) (by omega) at_ _ _ _ _ (by omega)
     intro k3 r3 zS j y1 y2 y3 y4 hj
     by_cases mz:j<En
     ·have zT:=h.get (i:=j) (by omega)
      have lr:j<n:=by omega
      have wj:IntKind.i64.wrap ((j:Int)+1)=((j+1:Nat):Int):=by rw [wrap64]<;>omega
      simp only [ae,aj,Int.natCast_nonneg,Int.ofNat_lt,mz,lr,ly,and_self,if_true,Int.toNat_natCast,Nat.mul_one,zT,ak,wj]
      by_cases hp:(fun j=>dP ((fO cs).getD j none) o) j=true
      ·rw [cq lr hp]
       exact bm hp rfl
      ·have hp:(fun j=>dP ((fO cs).getD j none) o) j=false:=by simpa using hp
       rw [br (En:=j+1) (by omega) (by omega) (fun i a b=>by (have q:i=j:=by omega);subst q;exact hp)]
       exact bS hp (zS (k3-1) (by omega) (j+1) _ _ _ _ (by omega))
     ·have:j=En:=by omega
      subst this
      simp only [ae,Int.ofNat_lt,mz,if_false]
      exact mC
    ·have ey:dP (ca (fO cs) ls l ((at_:Int) / s)).2 o=false:=by simpa using hv
     rw [br (p:=(fun j=>dP ((fO cs).getD j none) o)) (Nat.le_of_lt s1) s2 (s3 ey)]
     exact bm (congrArg not ey) mC
  ·rw [if_neg hn] at jq
   rw [if_neg (show ¬ s>=(n:Int) from hn)]
   obtain ⟨mm,rfl⟩:∃ m',mm=m' + 1:=by
    cases mm with
    | zero=>omega
    | succ mm=>exact ⟨mm,rfl⟩
   refine tr mm (by omega) (l+1) (2*s) l ((at_:Int) / s) (min (n:Int) ((at_:Int)+s)) (by omega) (by omega) (by omega) (by omega) ?_ jq
   rw [Int.pow_succ] at Qf;rw [Int.mul_comm 2 s,Int.mul_assoc,Int.mul_comm 2];exact Qf
 ·have e1:(((at_:Int)%s==0)&&decide (min (n:Int) ((at_:Int)+s)<=(n:Int)))=false:=by
   rw [Bool.and_eq_false_iff]
   by_cases hz:(at_:Int)%s=0
   ·exact .inr (decide_eq_false fun h=>bw ⟨hz,h⟩)
   ·exact .inl (beq_eq_false_iff_ne.2 hz)
  rw [e1,bH]
  rw [if_neg bw] at jq
  obtain ⟨En,Js,s1,s2,s3⟩:=fin _ _ _ jq
  rw [Js]
  have mC:=ih k (by omega) En (by omega) (by omega) (by omega)
  have sz:En<9223372036854775808:=by omega
  have Qg:=V7 _ _ _ jq
  obtain ⟨g1,g2,⟨g3,g4,g6,g5⟩ | ⟨g3,g5⟩⟩:=look _ _ _ jq
  ·have Jt:=h.get (i:=at_) (by omega)
   have fz:=bn (hT.fin.get (i:=at_) (by omega))
   have g7:¬ (c1>=0):=by omega
   simp only [ae,g3,g4,g7,if_true,if_false,aj,Int.natCast_nonneg,Int.ofNat_lt,Lq,ly,and_self,Int.toNat_natCast,Nat.mul_one,Jt,ak,bP H9,fz]
   by_cases hv:dP (ca (fO cs) ls c1 c2).2 o=true
   ·have ey:=hv
    rw [g5] at ey
    refine bS (congrArg not ey) ?_
    refine au (fun k3 (r3:Int->Int->Nat->List AV->Int->Nat->List AV->Option Nat->Int->Nat->List AV->Nat->List AV->Int->Nat->List AV->Nat->List AV->Nat->List AV->Int->List (AV × AV × Nat)->Nat->Nat->List AV->Nat->List AV->Int->Nat->List AV->Int->Int->Int->Int->Int->Int->Int->Int->Int->Int->Option (List aa))=>∀ (j:Nat) (y1 y2 y3 y4:Int),j+k3=En->
     r3 (En:Int) (j:Int) (((n))) (((cs))) (((A:Int))) (((m))) (((ls))) (((o))) (((A:Int))) (((m))) (((ls))) (((3))) ((pc)) (((A:Int))) (((m))) (((ls))) (((0))) ((([]))) (((n))) (((cs))) (((A:Int))) (((dj 0 E))) ((E.length)) (((0))) ((([]))) (((n))) (((cs))) (((A:Int))) (((n))) (((cs))) (((A:Int))) (((-1:Int))) (((A:Int))) (((↑(n):Int))) ((F:Int)) (((↑(n):Int))) y1 y2 y3 y4=dp (aF (fun j=>dP ((fO cs).getD j none) o) (n-j) j)) ?_ N (En-at_) (by omega) at_ _ _ _ _ (by omega)
    intro k3 r3 zS j y1 y2 y3 y4 hj
    by_cases mz:j<En
    ·have zT:=h.get (i:=j) (by omega)
     have lr:j<n:=by omega
     have wj:IntKind.i64.wrap ((j:Int)+1)=((j+1:Nat):Int):=by rw [wrap64]<;>omega
     simp only [ae,aj,Int.natCast_nonneg,Int.ofNat_lt,mz,lr,ly,and_self,if_true,Int.toNat_natCast,Nat.mul_one,zT,ak,wj]
     by_cases hp:(fun j=>dP ((fO cs).getD j none) o) j=true
     ·rw [cq lr hp]
      exact bm hp rfl
     ·have hp:(fun j=>dP ((fO cs).getD j none) o) j=false:=by simpa using hp
      rw [br (En:=j+1) (by omega) (by omega) (fun i a b=>by (have q:i=j:=by omega);subst q;exact hp)]
      exact bS hp (zS (k3-1) (by omega) (j+1) _ _ _ _ (by omega))
    ·have:j=En:=by omega
     subst this
     simp only [ae,Int.ofNat_lt,mz,if_false]
     exact mC
   ·have ey:dP (ca (fO cs) ls c1 c2).2 o=false:=by simpa using hv
    have hs:=br (p:=(fun j=>dP ((fO cs).getD j none) o)) (Nat.le_of_lt s1) s2 (s3 ey)
    rw [g5] at ey
    rw [hs]
    exact bm (congrArg not ey) mC
  ·have g7:c1>=0:=by omega
   have g8:=Qg g7
   simp only [ae,g3,if_false,g5,ak,gG,List.length_cons,List.length_nil,aj,if_true,List.getD_cons_zero,List.tail_cons,lL,bP H9,g7,g8,and_self]
   by_cases hv:dP (ca (fO cs) ls c1 c2).2 o=true
   ·refine bS (congrArg not hv) ?_
    refine au (fun k3 (r3:Int->Int->Nat->List AV->Int->Nat->List AV->Option Nat->Int->Nat->List AV->Nat->List AV->Int->Nat->List AV->Nat->List AV->Nat->List AV->Int->List (AV × AV × Nat)->Nat->Nat->List AV->Nat->List AV->Int->Nat->List AV->Int->Int->Int->Int->Int->Int->Int->Int->Int->Int->Option (List aa))=>∀ (j:Nat) (y1 y2 y3 y4:Int),j+k3=En->
     r3 (En:Int) (j:Int) (((n))) (((cs))) (((A:Int))) (((m))) (((ls))) (((o))) (((A:Int))) (((m))) (((ls))) (((3))) ((pc)) (((A:Int))) (((m))) (((ls))) (((0))) ((([]))) (((n))) (((cs))) (((A:Int))) (((dj 0 E))) ((E.length)) (((0))) ((([]))) (((n))) (((cs))) (((A:Int))) (((n))) (((cs))) (((A:Int))) (((-1:Int))) (((A:Int))) (((↑(n):Int))) ((F:Int)) (((↑(n):Int))) y1 y2 y3 y4=dp (aF (fun j=>dP ((fO cs).getD j none) o) (n-j) j)) ?_ N (En-at_) (by omega) at_ _ _ _ _ (by omega)
    intro k3 r3 zS j y1 y2 y3 y4 hj
    by_cases mz:j<En
    ·have zT:=h.get (i:=j) (by omega)
     have lr:j<n:=by omega
     have wj:IntKind.i64.wrap ((j:Int)+1)=((j+1:Nat):Int):=by rw [wrap64]<;>omega
     simp only [ae,aj,Int.natCast_nonneg,Int.ofNat_lt,mz,lr,ly,and_self,if_true,Int.toNat_natCast,Nat.mul_one,zT,ak,wj]
     by_cases hp:(fun j=>dP ((fO cs).getD j none) o) j=true
     ·rw [cq lr hp]
      exact bm hp rfl
     ·have hp:(fun j=>dP ((fO cs).getD j none) o) j=false:=by simpa using hp
      rw [br (En:=j+1) (by omega) (by omega) (fun i a b=>by (have q:i=j:=by omega);subst q;exact hp)]
      exact bS hp (zS (k3-1) (by omega) (j+1) _ _ _ _ (by omega))
    ·have:j=En:=by omega
     subst this
     simp only [ae,Int.ofNat_lt,mz,if_false]
     exact mC
   ·have ey:dP (ca (fO cs) ls c1 c2).2 o=false:=by simpa using hv
    rw [br (p:=(fun j=>dP ((fO cs).getD j none) o)) (Nat.le_of_lt s1) s2 (s3 ey)]
    exact bm (congrArg not ey) mC
end Go.Abs
end
