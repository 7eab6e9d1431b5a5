/- Part 37 of the library that the proof of the statement uses: an abstract run of the program, proved right, and what its functions give. -/
import Derived.Test.YtkloadomnblkeaaGreatDoorSr13
import Derived.Test.YtkloadomnblkeaaGreatDoorSr33
import Derived.Test.YtkloadomnblkeaaGreatDoorSr36
set_option linter.unusedVariables false
set_option linter.unusedSimpArgs false

noncomputable section
namespace Go.Abs
open Go.Proofs Classical
def bestC (n to at_:Int):Nat->Int->Int->Int × Int × Int->Int × Int × Int
 | 0,_,_,cur=>cur
 | k+1,l,s,cur=>if at_%s=0/\min n (at_+s)<=to then (if n<=s then (l,at_ / s,min n (at_+s)) else bestC n to at_ k (l+1) (2*s) (l,at_ / s,min n (at_+s))) else cur
theorem best_end (a n to at_:Int) (h0:0<=at_) (hat:at_<to) (hto:to<=n):∀ (k:Nat) (l s:Int) (cur:Int × Int × Int),0<=l->1<=s->s=a*2 ^ l.toNat->l+k<=14->
  ((endsL a n cur.1 cur.2.1).2=cur.2.2/\at_<cur.2.2/\cur.2.2<=to/\-1<=cur.1/\cur.1<=13/\0<=cur.2.1/\cur.2.1<=at_)->
  ((endsL a n (bestC n to at_ k l s cur).1 (bestC n to at_ k l s cur).2.1).2=(bestC n to at_ k l s cur).2.2/\at_<(bestC n to at_ k l s cur).2.2/\(bestC n to at_ k l s cur).2.2<=to/\-1<=(bestC n to at_ k l s cur).1/\(bestC n to at_ k l s cur).1<=13/\0<=(bestC n to at_ k l s cur).2.1/\(bestC n to at_ k l s cur).2.1<=at_)
 | 0,l,s,cur,_,_,_,_,h=>h
 | k+1,l,s,cur,hl,hs,he,hk,h=>by
  rw [bestC]
  split
  ·rename_i hok
   have hnew:(endsL a n l (at_ / s)).2=min n (at_+s)/\at_<min n (at_+s)/\min n (at_+s)<=to/\-1<=l/\l<=13/\0<=at_ / s/\at_ / s<=at_:=by
    refine ⟨?_,by omega,hok.2,by omega,by omega,Int.ediv_nonneg h0 (by omega),Int.ediv_le_self _ h0⟩
    unfold endsL
    rw [if_neg (by omega),←he]
    have e1:s*(at_ / s)=at_:=Int.mul_ediv_cancel' (Int.dvd_of_emod_eq_zero hok.1)
    show min n (s*(at_ / s+1))=_
    rw [Int.mul_add,e1,Int.mul_one]
   split
   ·exact hnew
   ·refine best_end a n to at_ h0 hat hto k (l+1) (2*s) _ (by omega) (by omega) ?_ (by omega) hnew
    rw [he,show (l+1).toNat=l.toNat+1 by omega,Int.pow_succ]
    generalize (2:Int) ^ l.toNat=z
    grind
  ·exact h
theorem best_start {a n to at_:Int} (h0:0<=at_) (hat:at_<to) (hto:to<=n) (ha:1<=a):
  ∀ r,r=bestC n to at_ 14 0 a (-1,at_,at_+1)->(endsL a n r.1 r.2.1).2=r.2.2/\at_<r.2.2/\r.2.2<=to/\-1<=r.1/\r.1<=13/\0<=r.2.1/\r.2.1<=at_:=by
 intro r hr
 subst hr
 exact best_end a n to at_ h0 hat hto 14 0 a _ (by omega) ha (by simp) (by omega) ⟨rfl,by show at_<at_+1;omega,by show at_+1<=to;omega,by show (-1:Int)<=-1;omega,by show (-1:Int)<=13;omega,h0,Int.le_refl _⟩
end Go.Abs
end
set_option maxRecDepth 100000
noncomputable section
namespace Go.Abs
open Go.Proofs Classical Go.Abs.Fin
theorem aeq_key (a b c d:Int):aeq Tryz.prog 64 130 (.agg [.int .i64 a,.int .i64 b]) (.agg [.int .i64 c,.int .i64 d])=(match (a==c) with | true=>(match (b==d) with | true=>some true | false=>some false) | false=>some false):=by kernel_rfl
abbrev PE:=(Int × Int) × (Option Nat × Option Nat)
def kAV (p:Int × Int):AV:=.agg [.int .i64 p.1,.int .i64 p.2]
def vAV (q:Option Nat × Option Nat):AV:=.agg [.flo .f32 q.1,.flo .f32 q.2]
def encE:Nat->List PE->List (AV × AV × Nat)
 | _,[]=>[]
 | c,e::es=>(kAV e.1,vAV e.2,c)::encE (c+1) es
theorem encE_app:∀ (E:List PE) (c:Nat) (e:PE),encE c (E++[e])=encE c E++[(kAV e.1,vAV e.2,c+E.length)]
 | [],c,e=>rfl
 | x::E,c,e=>by
  rw [List.cons_append,encE,encE_app E (c+1) e,encE,List.length_cons,show c+1+E.length=c+(E.length+1) by omega];rfl
theorem aeq_kAV (k q:Int × Int):aeq Tryz.prog 64 130 (kAV k) (kAV q)=some (decide (k=q)):=by
 unfold kAV
 rw [aeq_key]
 by_cases h1:k.1=q.1
 ·rw [beq_iff_eq.2 h1]
  by_cases h2:k.2=q.2
  ·rw [beq_iff_eq.2 h2,decide_eq_true (Prod.ext h1 h2)]
  ·rw [beq_eq_false_iff_ne.2 h2,decide_eq_false (fun e=>h2 (by rw [e]))]
 ·rw [beq_eq_false_iff_ne.2 h1,decide_eq_false (fun e=>h1 (by rw [e]))]
theorem find_none {k:Int × Int}:∀ (E:List PE) (c i:Nat),(∀ e∈E,e.1≠k)->afindKey Tryz.prog 130 (kAV k) (encE c E) i=some none
 | [],c,i,h=>rfl
 | e::E,c,i,h=>by
  have h1:aeq Tryz.prog 64 130 (kAV k) (kAV e.1)=some false:=by rw [aeq_kAV,decide_eq_false (fun e2=>h e List.mem_cons_self e2.symm)]
  simp only [encE,afindKey,h1]
  exact find_none E (c+1) (i+1) fun e he=>h e (List.mem_cons_of_mem _ he)
theorem find_some {k:Int × Int} {v:Option Nat × Option Nat}:∀ (E:List PE) (c i:Nat),(k,v)∈E->(∀ e∈E,e.1=k->e.2=v)->∃ j,afindKey Tryz.prog 130 (kAV k) (encE c E) i=some (some (j,vAV v))
 | [],c,i,h,_=>by cases h
 | e::E,c,i,h,hu=>by
  by_cases he:k=e.1
  ·have h1:aeq Tryz.prog 64 130 (kAV k) (kAV e.1)=some true:=by rw [aeq_kAV,decide_eq_true he]
   simp only [encE,afindKey,h1]
   exact ⟨i,by rw [hu e List.mem_cons_self he.symm]⟩
  ·have h1:aeq Tryz.prog 64 130 (kAV k) (kAV e.1)=some false:=by rw [aeq_kAV,decide_eq_false he]
   simp only [encE,afindKey,h1]
   rcases List.mem_cons.1 h with h | h
   ·exact absurd (congrArg Prod.fst h) he
   ·exact find_some E (c+1) (i+1) h fun e he=>hu e (List.mem_cons_of_mem _ he)
theorem mput_new {E:List PE} {k:Int × Int} {v:Option Nat × Option Nat} (h:∀ e∈E,e.1≠k):mput Tryz.prog 130 (kAV k) (vAV v) (encE 0 E) E.length=some (encE 0 (E++[(k,v)]),(E++[(k,v)]).length):=by
 simp only [mput,find_none E 0 0 h,encE_app,Nat.zero_add,List.length_append,List.length_cons,List.length_nil]
theorem mlook_at {E:List PE} {k:Int × Int} {v:Option Nat × Option Nat} (h1:(k,v)∈E) (h2:∀ e∈E,e.1=k->e.2=v):mlook Tryz.prog 130 62 (kAV k) (encE 0 E)=some (true,vAV v):=by
 obtain ⟨j,hj⟩:=find_some E 0 0 h1 h2
 simp only [mlook,hj]
def InvE (len:Nat->Nat) (pv:Nat->Nat->Option Nat × Option Nat) (E:List PE) (i k:Nat):Prop:=
 (∀ e∈E,∃ a b:Nat,e=(((a:Int),(b:Int)),pv a b)/\(a<i\/(a=i/\b<k)))/\(∀ a b:Nat,((a<i/\b<len a)\/(a=i/\b<k))->(((a:Int),(b:Int)),pv a b)∈E)
section
variable {len : Nat → Nat} {pv : Nat → Nat → Option Nat × Option Nat} {E : List PE} {i k : Nat}
theorem InvE.nil:InvE len pv [] 0 0:=⟨fun e h=>(List.not_mem_nil h).elim,fun a b h=>by omega⟩
theorem InvE.fresh (h:InvE len pv E i k):∀ e∈E,e.1≠((i:Int),(k:Int)):=by
 intro e he hk
 obtain ⟨a,b,rfl,h1⟩:=h.1 e he
 simp only [Prod.mk.injEq] at hk
 omega
theorem InvE.step (h:InvE len pv E i k):InvE len pv (E++[(((i:Int),(k:Int)),pv i k)]) i (k+1):=by
 refine ⟨fun e he=>?_,fun a b hab=>?_⟩
 ·rcases List.mem_append.1 he with he | he
  ·obtain ⟨a,b,rfl,h1⟩:=h.1 e he
   exact ⟨a,b,rfl,by omega⟩
  ·rw [List.mem_singleton] at he
   exact ⟨i,k,he,by omega⟩
 ·by_cases hk:a=i/\b=k
  ·obtain ⟨rfl,rfl⟩:=hk
   exact List.mem_append_right _ (List.mem_singleton.2 rfl)
  ·exact List.mem_append_left _ (h.2 a b (by omega))
theorem InvE.next (h:InvE len pv E i (len i)):InvE len pv E (i+1) 0:=by
 refine ⟨fun e he=>?_,fun a b hab=>?_⟩
 ·obtain ⟨a,b,rfl,h1⟩:=h.1 e he
  exact ⟨a,b,rfl,by omega⟩
 ·refine h.2 a b ?_
  by_cases ha:a=i
  ·subst ha;omega
  ·omega
theorem InvE.look (h:InvE len pv E i 0) {a b:Nat} (ha:a<i) (hb:b<len a):mlook Tryz.prog 130 62 (kAV ((a:Int),(b:Int))) (encE 0 E)=some (true,vAV (pv a b)):=by
 refine mlook_at (h.2 a b (by omega)) fun e he hk=>?_
 obtain ⟨a',b',rfl,h1⟩:=h.1 e he
 simp only [Prod.mk.injEq] at hk
 obtain rfl:a'=a:=by omega
 obtain rfl:b'=b:=by omega
 rfl
end
def pvL (ls:List AV) (a b:Nat):Option Nat × Option Nat:=
 (minO (clean1 ((lvAt ls a).getD (2*b) none)) (clean1 ((lvAt ls a).getD (2*b+1) none)),maxO (clean1 ((lvAt ls a).getD (2*b) none)) (clean1 ((lvAt ls a).getD (2*b+1) none)))
def lenL (ls:List AV) (a:Nat):Nat:=(lvAt ls a).length / 2
structure TreeOk (xs:List (Option Nat)) (A m:Nat) (ls:List AV):Prop where
 few:xs.length<=4096
 fin:FinL xs
 one:1<=A
 most:A<=256
 len:(refLv xs A).length=m
 lev:∀ i,i<m->SamL ((refLv xs A).getD i []) (lvAt ls i)
theorem tree_ok {n m:Nat} {xs:List (Option Nat)} {b:Int} {ls:List AV} (hn:xs.length=n) (h:chkT n xs b m ls=0):∃ A:Nat,b=(A:Int)/\TreeOk xs A m ls:=by
 unfold chkT at h
 split at h
 ·rename_i hs
  obtain ⟨h1,h2⟩:=samp_all hs
  split at h
  ·cases h
  ·rename_i hb
   obtain ⟨A,rfl⟩:=Int.eq_ofNat_of_zero_le (show 0<=b by omega)
   rw [Int.toNat_natCast] at h
   have hsame:=levels_same (xs:=xs) (b:=A) (by omega) (by omega) h2
   unfold treeErr at h
   split at h
   ·rename_i hl
    split at h
    ·rename_i hle
     split at h
     ·rename_i hfi
      split at h
      ·rename_i hke
       refine ⟨A,rfl,by omega,h2,by omega,by omega,hl,fun i hi=>?_⟩
       have hs:=SameLv.at i hsame (by rw [hsame.len,hl];exact hi)
       have e1:=of_decide_eq_true (all_range.1 hle i hi)
       refine ⟨e1,by rw [←hs.len];exact hs.two,by rw [←hs.len];exact hs.few,hs.finM,finR_iff.1 (all_range.1 hfi i hi),fun j hj=>?_⟩
       exact (of_decide_eq_true (all_range.1 (all_range.1 hke i hi) j (by omega))).symm
      ·cases h
     ·cases h
    ·cases h
   ·cases h
 ·rename_i hs;exact absurd h hs
theorem row_stl {xs:List (Option Nat)} {w:Nat} (hw:1<=w) (hf:FinL xs):StL (keyAt xs) xs.length w (rowF xs w xs.length 0):=by
 have:=row_std hw hf xs.length 0 0 [] (by simp) rfl (by omega) (by omega) (fun j hj=>by omega)
 simpa using this
theorem refF_at {xs:List (Option Nat)} (h0:0<xs.length) (hf:FinL xs):∀ (k w L:Nat),1<=w->xs.length<=w*2 ^ k->(L=0\/w*2 ^ (L-1)<xs.length)->
  L<(refF xs k w).length/\(refF xs k w).getD L []=rowF xs (w*2 ^ L) xs.length 0
 | k,w,L,hw,hk,hL=>by
  have small:xs.length<=w->L=0:=by
   intro h
   rcases hL with hL | hL
   ·exact hL
   ·have:w*1<=w*2 ^ (L-1):=Nat.mul_le_mul_left _ (Nat.two_pow_pos _)
    omega
  cases k with
  | zero=>
   have:=small (by simpa using hk)
   subst this
   simp [refF]
  | succ k=>
   rw [refF]
   split
   ·rename_i h2
    obtain ⟨c,h3,h4,_⟩:=row_stl hw hf
    have hc:c=1:=by omega
    subst hc
    have:=small (by omega)
    subst this
    simp
   ·cases L with
    | zero=>simp
    | succ L=>
     have hk2:xs.length<=2*w*2 ^ k:=by
      rw [Nat.pow_succ,Nat.mul_comm (2 ^ k) 2,←Nat.mul_assoc,Nat.mul_comm w 2] at hk;exact hk
     have hL2:L=0\/2*w*2 ^ (L-1)<xs.length:=by
      cases L with
      | zero=>exact .inl rfl
      | succ L=>
       right
       rcases hL with hL | hL
       ·omega
       ·simp only [Nat.add_sub_cancel] at hL ⊢
        rw [Nat.pow_succ,Nat.mul_comm (2 ^ L) 2,←Nat.mul_assoc,Nat.mul_comm w 2] at hL;exact hL
     obtain ⟨i1,i2⟩:=refF_at h0 hf k (2*w) L (by omega) hk2 hL2
     refine ⟨by simp only [List.length_cons];omega,?_⟩
     have e:w*2 ^ (L+1)=2*w*2 ^ L:=by rw [Nat.pow_succ,Nat.mul_comm (2 ^ L) 2,←Nat.mul_assoc,Nat.mul_comm w 2]
     rw [e]
     simpa using i2
def NodeOk (A n:Nat) (at_:Nat) (r:Int × Int × Int):Prop:=
 (r.1=-1/\r.2.1=(at_:Int)/\r.2.2=((at_+1:Nat):Int))\/
 ∃ L I:Nat,r.1=(L:Int)/\r.2.1=(I:Int)/\I*(A*2 ^ L)=at_/\r.2.2=((min n (at_+A*2 ^ L):Nat):Int)/\(L=0\/A*2 ^ (L-1)<n)
theorem best_node {A n at_:Nat} {to:Int}:∀ (k l:Nat) (cur:Int × Int × Int),(l=0\/A*2 ^ (l-1)<n)->NodeOk A n at_ cur->NodeOk A n at_ (bestC (n:Int) to (at_:Int) k (l:Int) ((A*2 ^ l:Nat):Int) cur)
 | 0,l,cur,hl,h=>h
 | k+1,l,cur,hl,h=>by
  rw [bestC]
  split
  ·rename_i hok
   have hnew:NodeOk A n at_ ((l:Int),(at_:Int) / ((A*2 ^ l:Nat):Int),min (n:Int) ((at_:Int)+((A*2 ^ l:Nat):Int))):=by
    refine .inr ⟨l,at_ / (A*2 ^ l),rfl,by simp,?_,?_,hl⟩
    ·have h1:=hok.1
     have:at_%(A*2 ^ l)=0:=by
      rw [←Int.natCast_emod] at h1;omega
     exact Nat.div_mul_cancel (Nat.dvd_of_mod_eq_zero this)
    ·simp only [←Int.natCast_add];omega
   split
   ·exact hnew
   ·rename_i hns
    have e:(2*((A*2 ^ l:Nat):Int))=((A*2 ^ (l+1):Nat):Int):=by
     rw [Nat.pow_succ,←Nat.mul_assoc];omega
    have e2:((l:Int)+1)=((l+1:Nat):Int):=by omega
    rw [e,e2]
    refine best_node k (l+1) _ (.inr ?_) hnew
    simp only [Nat.add_sub_cancel]
    omega
  ·exact h
def valN (xs:List (Option Nat)) (ls:List AV) (l i:Int):Option Nat × Option Nat:=
 if l<0 then (clean1 (xs.getD i.toNat none),clean1 (xs.getD i.toNat none)) else pvL ls l.toNat i.toNat
theorem Std.single {xs:List (Option Nat)} {i:Nat} (h:finB (xs.getD i none)=true):Std (keyAt xs) (clean1 (xs.getD i none)) (clean1 (xs.getD i none)) i (i+1):=by
 have he:fkey (clean1 (xs.getD i none))=keyAt xs i:=key_clean h
 refine ⟨finB_clean h,finB_clean h,⟨i,by omega,by omega,he.symm⟩,⟨i,by omega,by omega,he.symm⟩,fun j h1 h2=>?_⟩
 have:j=i:=by omega
 subst this
 simp only [he]
 omega
theorem Std.congr {f:Nat->Int} {a b c d:Option Nat} {lo hi:Nat} (h:Std f a b lo hi) (hc:finB c=true) (hd:finB d=true) (e1:fkey a=fkey c) (e2:fkey b=fkey d):Std f c d lo hi:=by
 obtain ⟨h1,h2,h3,h4,h5⟩:=h
 rw [e1] at h3
 rw [e2] at h4
 rw [e1,e2] at h5
 exact ⟨hc,hd,h3,h4,h5⟩
theorem node_in {xs:List (Option Nat)} {A m:Nat} {ls:List AV} (h:TreeOk xs A m ls) {at_ L I:Nat} (ha:at_<xs.length) (h1:I*(A*2 ^ L)=at_) (h2:L=0\/A*2 ^ (L-1)<xs.length):
  L<m/\I<lenL ls L/\Std (keyAt xs) ((lvAt ls L).getD (2*I) none) ((lvAt ls L).getD (2*I+1) none) at_ (min xs.length (at_+A*2 ^ L)):=by
 have h0:0<xs.length:=by omega
 have hr:refLv xs A=refF xs 13 A:=if_neg (by omega)
 have hA:=h.one
 have hfew:=h.few
 have hk:xs.length<=A*2 ^ 13:=by omega
 obtain ⟨i1,i2⟩:=refF_at h0 h.fin 13 A L hA hk h2
 rw [←hr] at i1 i2
 rw [h.len] at i1
 have hs:=h.lev L i1
 rw [i2] at hs
 have hw:1<=A*2 ^ L:=Nat.mul_pos hA (Nat.two_pow_pos _)
 obtain ⟨c,c1,c2,c3,c4⟩:=row_stl (w:=A*2 ^ L) hw h.fin
 have hIc:I<c:=by
  rcases Nat.lt_or_ge I c with h | h
  ·exact h
  ·have:=Nat.mul_le_mul_right (A*2 ^ L) h;omega
 have hlen:=hs.len
 refine ⟨i1,by unfold lenL;omega,?_⟩
 have:=c4 I hIc
 rw [show (I+1)*(A*2 ^ L)=I*(A*2 ^ L)+A*2 ^ L from Nat.succ_mul _ _,h1,Nat.min_comm] at this
 exact this.congr (hs.finM.get (by omega)) (hs.finM.get (by omega)) (hs.key _ (by omega)) (hs.key _ (by omega))
theorem pv_std {f:Nat->Int} {a b:Option Nat} {lo hi:Nat} (h:Std f a b lo hi):Std f (minO (clean1 a) (clean1 b)) (maxO (clean1 a) (clean1 b)) lo hi:=by
 obtain ⟨h1,h2,⟨k,h3,h4,h5⟩,_,h6⟩:=id h
 have hab:=h6 k h3 h4
 obtain ⟨_,m1,m2⟩:=minO_fin (finB_clean h1) (finB_clean h2)
 obtain ⟨_,n1,n2⟩:=maxO_fin (finB_clean h1) (finB_clean h2)
 rw [key_clean h1,key_clean h2] at m2 n2
 exact h.congr m1 n1 (by omega) (by omega)
theorem val_std {xs:List (Option Nat)} {A m:Nat} {ls:List AV} (h:TreeOk xs A m ls) {at_:Nat} {r:Int × Int × Int} (ha:at_<xs.length) (hr:NodeOk A xs.length at_ r):
  Std (keyAt xs) (valN xs ls r.1 r.2.1).1 (valN xs ls r.1 r.2.1).2 at_ r.2.2.toNat/\(at_:Int)<r.2.2/\r.2.2<=xs.length:=by
 unfold valN
 rcases hr with ⟨e1,e2,e3⟩ | ⟨L,I,e1,e2,e3,e4,e5⟩
 ·rw [e1,e2,e3,if_pos (by omega)]
  exact ⟨Std.single (h.fin.get ha),by omega,by omega⟩
 ·rw [e1,e2,e4,if_neg (by omega)]
  obtain ⟨_,_,h3⟩:=node_in h ha e3 e5
  have hw:1<=A*2 ^ L:=Nat.mul_pos h.one (Nat.two_pow_pos _)
  exact ⟨pv_std h3,by omega,by omega⟩
def extR (xs:List (Option Nat)) (ls:List AV) (a n to:Int):Nat->Int->Option Nat × Option Nat->Option Nat × Option Nat
 | 0,_,p=>p
 | k+1,at_,p=>if at_<to then extR xs ls a n to k (bestC n to at_ 14 0 a (-1,at_,at_+1)).2.2
   (minO p.1 (valN xs ls (bestC n to at_ 14 0 a (-1,at_,at_+1)).1 (bestC n to at_ 14 0 a (-1,at_,at_+1)).2.1).1,maxO p.2 (valN xs ls (bestC n to at_ 14 0 a (-1,at_,at_+1)).1 (bestC n to at_ 14 0 a (-1,at_,at_+1)).2.1).2) else p
theorem Std.absorb {f:Nat->Int} {a b c d:Option Nat} {lo mid hi:Nat} (h:Std f a b lo mid) (h':Std f c d lo hi) (hm:mid<=hi):Std f (minO a c) (maxO b d) lo hi:=by
 obtain ⟨h1,h2,⟨k1,h3,h4,h5⟩,⟨k2,h6,h7,h8⟩,h9⟩:=h
 obtain ⟨g1,g2,⟨j1,g3,g4,g5⟩,⟨j2,g6,g7,g8⟩,g9⟩:=h'
 obtain ⟨_,m2,m3⟩:=minO_fin h1 g1
 obtain ⟨_,n2,n3⟩:=maxO_fin h2 g2
 have q1:=g9 k1 h3 (by omega)
 have q2:=g9 k2 h6 (by omega)
 refine ⟨m2,n2,⟨j1,g3,g4,by omega⟩,⟨j2,g6,g7,by omega⟩,fun k hk1 hk2=>?_⟩
 have:=g9 k hk1 hk2
 omega
theorem start_node {A n at_:Nat} {to:Int}:NodeOk A n at_ (bestC (n:Int) to (at_:Int) 14 0 (A:Int) (-1,(at_:Int),(at_:Int)+1)):=by
 have:=best_node (A:=A) (n:=n) (at_:=at_) (to:=to) 14 0 (-1,(at_:Int),(at_:Int)+1) (.inl rfl) (.inl ⟨rfl,rfl,by show (at_:Int)+1=_;omega⟩)
 simpa using this
theorem ext_ok {xs:List (Option Nat)} {A m f t:Nat} {ls:List AV} (h:TreeOk xs A m ls) (ht:t<=xs.length):∀ (k:Nat) (at_:Nat) (p:Option Nat × Option Nat),f<=at_->at_<=t->t<at_+k->Std (keyAt xs) p.1 p.2 f (max at_ (f+1))->
  Std (keyAt xs) (extR xs ls A xs.length t k at_ p).1 (extR xs ls A xs.length t k at_ p).2 f (max t (f+1))
 | 0,at_,p,h1,h2,h3,h4=>by omega
 | k+1,at_,p,h1,h2,h3,h4=>by
  rw [extR]
  by_cases hlt:at_<t
  ·rw [if_pos (by omega)]
   have hb:=best_start (a:=(A:Int)) (n:=(xs.length:Int)) (to:=(t:Int)) (at_:=(at_:Int)) (by omega) (by omega) (by omega) (by have:=h.one;omega) _ rfl
   have hn:=start_node (A:=A) (n:=xs.length) (at_:=at_) (to:=(t:Int))
   generalize bestC (xs.length:Int) (t:Int) (at_:Int) 14 0 (A:Int) (-1,(at_:Int),(at_:Int)+1)=r at hb hn
   obtain ⟨v1,v2,v3⟩:=val_std h (by omega) hn
   obtain ⟨_,b1,b2,_⟩:=hb
   obtain ⟨E,hE⟩:=Int.eq_ofNat_of_zero_le (show 0<=r.2.2 by omega)
   rw [hE]
   rw [hE] at v1 b1 b2
   rw [Int.toNat_natCast] at v1
   refine ext_ok h ht k E _ (by omega) (by omega) (by omega) ?_
   rw [Nat.max_eq_left (by omega)]
   by_cases hf:at_=f
   ·subst hf
    rw [Nat.max_eq_right (by omega)] at h4
    exact h4.absorb v1 (by omega)
   ·rw [Nat.max_eq_left (by omega)] at h4
    exact h4.join v1
  ·rw [if_neg (by omega)]
   have:at_=t:=by omega
   subst this
   exact h4
def extP (xs:List (Option Nat)) (ls:List AV) (a n f t:Int):Option Nat × Option Nat:=
 extR xs ls a n t 4097 f (clean1 (xs.getD f.toNat none),clean1 (xs.getD f.toNat none))
theorem extP_ok {xs:List (Option Nat)} {A m f t:Nat} {ls:List AV} (h:TreeOk xs A m ls) (hft:f<t) (ht:t<=xs.length):Std (keyAt xs) (extP xs ls A xs.length f t).1 (extP xs ls A xs.length f t).2 f t:=by
 have hfew:=h.few
 have:=ext_ok (f:=f) h ht 4097 f (clean1 (xs.getD f none),clean1 (xs.getD f none)) (Nat.le_refl _) (by omega) (by omega) (by rw [Nat.max_eq_right (by omega)];exact Std.single (h.fin.get (by omega)))
 rw [Nat.max_eq_left (by omega)] at this
 unfold extP
 rw [Int.toNat_natCast]
 exact this
theorem node_step {xs:List (Option Nat)} {A m f t at_:Nat} {ls:List AV} (h:TreeOk xs A m ls) {p:Option Nat × Option Nat} {L I E:Int} (hn:NodeOk A xs.length at_ (L,I,E)) (h1:f<=at_) (ha:at_<t) (ht:t<=xs.length) (hE:E<=t)
  (hp:Std (keyAt xs) p.1 p.2 f (max at_ (f+1))):
  ∃ En:Nat,E=(En:Int)/\at_<En/\En<=t/\Std (keyAt xs) (minO p.1 (valN xs ls L I).1) (maxO p.2 (valN xs ls L I).2) f (max En (f+1)):=by
 obtain ⟨v1,v2,v3⟩:=val_std h (by omega) hn
 dsimp only at v1 v2 v3
 obtain ⟨En,rfl⟩:=Int.eq_ofNat_of_zero_le (show 0<=E by omega)
 rw [Int.toNat_natCast] at v1
 refine ⟨En,rfl,by omega,by omega,?_⟩
 rw [Nat.max_eq_left (by omega)]
 by_cases hf:at_=f
 ·subst hf
  rw [Nat.max_eq_right (by omega)] at hp
  exact hp.absorb v1 (by omega)
 ·rw [Nat.max_eq_left (by omega)] at hp
  exact hp.join v1
theorem node_look {xs:List (Option Nat)} {A m at_:Nat} {ls:List AV} {E:List PE} (h:TreeOk xs A m ls) (hE:InvE (lenL ls) (pvL ls) E m 0) {L I X:Int} (hn:NodeOk A xs.length at_ (L,I,X)) (ha:at_<xs.length):
  finB (valN xs ls L I).1=true/\finB (valN xs ls L I).2=true/\((L<0/\I=(at_:Int)/\X=((at_+1:Nat):Int)/\valN xs ls L I=(clean1 (xs.getD at_ none),clean1 (xs.getD at_ none)))\/
  (¬ L<0/\mlook Tryz.prog 130 62 (.agg [.int .i64 L,.int .i64 I]) (encE 0 E)=some (true,.agg [.flo .f32 (valN xs ls L I).1,.flo .f32 (valN xs ls L I).2]))):=by
 obtain ⟨v1,v2,v3⟩:=val_std h ha hn
 refine ⟨v1.1,v1.2.1,?_⟩
 rcases hn with ⟨e1,e2,e3⟩ | ⟨a,b,e1,e2,e3,e4,e5⟩
 ·dsimp only at e1 e2 e3
  subst e1 e2
  refine .inl ⟨by omega,rfl,e3,?_⟩
  unfold valN
  rw [if_pos (by omega),Int.toNat_natCast]
 ·dsimp only at e1 e2 e4
  subst e1 e2
  obtain ⟨i1,i2,_⟩:=node_in h ha e3 e5
  refine .inr ⟨by omega,?_⟩
  have:=hE.look i1 i2
  unfold valN
  rw [if_neg (by omega),Int.toNat_natCast,Int.toNat_natCast]
  exact this
theorem put_node {E:List PE} {ls:List AV} {i j:Nat} (h:InvE (lenL ls) (pvL ls) E i j) {ds:List (Option Nat)} (hd:lvAt ls i=ds):
  mput Tryz.prog 130 (.agg [.int .i64 (i:Int),.int .i64 (j:Int)]) (.agg [.flo .f32 (minO (clean1 (ds.getD (2*j) none)) (clean1 (ds.getD (2*j+1) none))),.flo .f32 (maxO (clean1 (ds.getD (2*j) none)) (clean1 (ds.getD (2*j+1) none)))]) (encE 0 E) E.length=
  some (encE 0 (E++[(((i:Int),(j:Int)),pvL ls i j)]),(E++[(((i:Int),(j:Int)),pvL ls i j)]).length):=by
 have:=mput_new (v:=pvL ls i j) h.fresh
 subst hd
 exact this
theorem asAgg_agg (cs:List AV):asAgg (.agg cs)=some cs:=rfl
theorem asF_flo (o:Option Nat):asFloat .f32 (.flo .f32 o)=some o:=rfl
end Go.Abs
end
set_option maxRecDepth 100000
noncomputable section
namespace Go.Abs
open Go.Proofs Classical Go.Abs.Fin
def firstH (p:Nat->Bool):Nat->Nat->Int
 | 0,_=>-1
 | k+1,i=>if p i=true then (i:Int) else firstH p k (i+1)
theorem firstH_skip {p:Nat->Bool}:∀ (d k i:Nat),(∀ j,i<=j->j<i+d->p j=false)->firstH p (d+k) i=firstH p k (i+d)
 | 0,k,i,_=>by rw [Nat.zero_add,Nat.add_zero]
 | d+1,k,i,h=>by
  have e:d+1+k=(d+k)+1:=by omega
  have e2:i+(d+1)=i+1+d:=by omega
  rw [e,firstH,h i (Nat.le_refl _) (by omega),if_neg (by decide),firstH_skip d k (i+1) (fun j h1 h2=>h j (by omega) (by omega)),e2]
theorem firstH_to {p:Nat->Bool} {n at_ En:Nat} (h1:at_<=En) (h2:En<=n) (h:∀ j,at_<=j->j<En->p j=false):firstH p (n-at_) at_=firstH p (n-En) En:=by
 have:=firstH_skip (p:=p) (En-at_) (n-En) at_ (fun j a b=>h j a (by omega))
 rwa [show En-at_+(n-En)=n-at_ by omega,show at_+(En-at_)=En by omega] at this
theorem firstH_hit {p:Nat->Bool} {n at_:Nat} (h1:at_<n) (h:p at_=true):firstH p (n-at_) at_=(at_:Int):=by
 obtain ⟨k,hk⟩:∃ k,n-at_=k+1:=⟨n-at_-1,by omega⟩
 rw [hk,firstH,if_pos h]
theorem firstH_end {p:Nat->Bool} {n at_:Nat} (h1:n<=at_):firstH p (n-at_) at_=-1:=by
 rw [show n-at_=0 by omega,firstH]
def seekA (r:Int):Option (List RLeaf):=some [.v (.int .i64 (if r<0 then 0 else r)),.v (.int .i64 (if r<0 then 7 else 0))]
def geS (a o:Option Nat):Bool:=ordO .f32 a o==some .gt||ordO .f32 a o==some .eq
def eqS (a o:Option Nat):Bool:=ordO .f32 a o==some .eq
theorem geS_key {a o:Option Nat} (ha:finB a=true) (ho:finB o=true):geS a o=decide (fkey o<=fkey a):=by
 unfold geS
 rw [bgt ha ho,beqk ha ho,←Bool.decide_or]
 exact decide_eq_decide.2 (by omega)
theorem eqS_key {a o:Option Nat} (ha:finB a=true) (ho:finB o=true):eqS a o=decide (fkey a=fkey o):=by
 unfold eqS
 rw [beqk ha ho]
theorem no_ge {xs:List (Option Nat)} {a b o:Option Nat} {at_ En:Nat} (hf:FinL xs) (h:Std (keyAt xs) a b at_ En) (ho:finB o=true) (hle:En<=xs.length) (hb:geS b o=false):
  ∀ j,at_<=j->j<En->geS (xs.getD j none) o=false:=by
 intro j h1 h2
 have hj:=(h.2.2.2.2 j h1 h2).2
 have f:=hf.get (i:=j) (by omega)
 rw [geS_key h.2.1 ho] at hb
 rw [geS_key f ho]
 have:=of_decide_eq_false hb
 unfold keyAt at hj
 exact decide_eq_false (by omega)
def riseS (xs:List (Option Nat)) (o:Option Nat) (j:Nat):Bool:=decide (0<j)&&((ordO .f32 (xs.getD (j-1) none) o==some .lt)&&geS (xs.getD j none) o)
theorem riseS_no {xs:List (Option Nat)} {o:Option Nat} {j:Nat} (h:(ordO .f32 (xs.getD j none) o==some .lt)=false\/geS (xs.getD (j+1) none) o=false):riseS xs o (j+1)=false:=by
 unfold riseS
 rw [Nat.add_sub_cancel]
 rcases h with h | h
 ·rw [h,Bool.false_and,Bool.and_false]
 ·rw [h,Bool.and_false,Bool.and_false]
theorem riseS_at {xs:List (Option Nat)} {o:Option Nat} {j:Nat} (h:(ordO .f32 (xs.getD j none) o==some .lt)=true) (h2:geS (xs.getD (j+1) none) o=true):riseS xs o (j+1)=true:=by
 unfold riseS
 rw [Nat.add_sub_cancel,h,h2,decide_eq_true (by omega)]
 rfl
theorem no_rise {xs:List (Option Nat)} {a b o:Option Nat} {at_ En:Nat} (hf:FinL xs) (h:Std (keyAt xs) a b at_ En) (ho:finB o=true) (hle:En<=xs.length) (hb:geS b o=false):
  ∀ j,at_<=j->j<En->riseS xs o j=false:=by
 intro j h1 h2
 unfold riseS
 rw [no_ge hf h ho hle hb j h1 h2,Bool.and_false,Bool.and_false]
theorem no_eq {xs:List (Option Nat)} {a b o a':Option Nat} {at_ En t:Nat} (hf:FinL xs) (h:Std (keyAt xs) a b at_ En) (ho:Std (keyAt xs) a' o 0 t) (hle:En<=t) (ht:t<=xs.length) (hb:eqS b o=false):
  ∀ j,at_<=j->j<En->eqS (xs.getD j none) o=false:=by
 intro j h1 h2
 have hj:=(h.2.2.2.2 j h1 h2).2
 have hj2:=(ho.2.2.2.2 j (by omega) (by omega)).2
 obtain ⟨i,i1,i2,i3⟩:=h.2.2.2.1
 have hi:=(ho.2.2.2.2 i (by omega) (by omega)).2
 have f:=hf.get (i:=j) (by omega)
 rw [eqS_key h.2.1 ho.2.1] at hb
 rw [eqS_key f ho.2.1]
 have:=of_decide_eq_false hb
 unfold keyAt at hj hj2 hi i3
 exact decide_eq_false (by omega)
theorem node_begin {A n at_:Nat} {L I E:Int} (hA:1<=A) (hAm:A<=4096) (hat:at_<n) (hn:n<=4096) (hN:NodeOk A n at_ (L,I,E)) (hL:0<=L):
  IntKind.i64.wrap (IntKind.i64.wrap (I*(A:Int))*(2:Int) ^ min L.toNat 64)=(at_:Int):=by
 rcases hN with ⟨e1,e2,e3⟩ | ⟨a,b,e1,e2,e3,e4,e5⟩
 ·dsimp only at e1;omega
 ·dsimp only at e1 e2
  subst e1 e2
  have p:1<=2 ^ a:=Nat.two_pow_pos a
  have hb:b*A<=at_:=by
   rw [←e3,←Nat.mul_assoc];exact Nat.le_mul_of_pos_right _ p
  have ha:a<=64:=by
   rcases e5 with rfl | h
   ·omega
   ·apply Nat.le_of_lt_succ
    apply Classical.byContradiction
    intro hc
    have h64:2 ^ 64<=2 ^ (a-1):=Nat.pow_le_pow_right (by omega) (by omega)
    have:=Nat.mul_le_mul hA h64
    omega
  rw [Int.toNat_natCast,Nat.min_eq_left ha]
  have q1:((b:Int)*(A:Int))=((b*A:Nat):Int):=by simp
  rw [q1,wrap64 (z:=((b*A:Nat):Int)) (by omega) (by omega)]
  have q2:((b*A:Nat):Int)*(2:Int) ^ a=((at_:Nat):Int):=by
   rw [←e3,←Nat.mul_assoc];simp
  rw [q2,wrap64 (by omega) (by omega)]
end Go.Abs
end
set_option maxRecDepth 100000
noncomputable section
namespace Go.Abs
open Go.Proofs Classical Go.Abs.Fin
theorem condO_t' {R:Type} {b:Bool} {x y:Option R} {z:Option R} (h:b=true) (e:x=z):cO b x y=z:=by rw [h,←e];rfl
theorem condO_f' {R:Type} {b:Bool} {x y:Option R} {z:Option R} (h:b=false) (e:y=z):cO b x y=z:=by rw [h,←e];rfl
def seekE (n:Nat) (xs:List (Option Nat)) (b:Int) (m:Nat) (ls:List AV) (f:Int) (o:Option Nat):Int:=
  if chkT n xs b m ls=0 then (if (if f<0\/f>(n:Int) then (3:Int) else 0)=0 then (if (!finB o)=true then (1:Int) else 0) else (if f<0\/f>(n:Int) then (3:Int) else 0)) else chkT n xs b m ls
def skV (e r:Int):Int:=if e=0 then (if r<0 then 0 else r) else 0
def skE (e r:Int):Int:=if e=0 then (if r<0 then 7 else 0) else e
theorem seek_zero {n m:Nat} {xs:List (Option Nat)} {b f:Int} {o:Option Nat} {ls:List AV} (hn:xs.length=n) (h:seekE n xs b m ls f o=0):
    ∃ A F:Nat,b=(A:Int)/\f=(F:Int)/\F<=n/\finB o=true/\TreeOk xs A m ls:=by
  unfold seekE at h
  split at h
  · rename_i hc
    obtain ⟨A,rfl,hT⟩:=tree_ok hn hc
    by_cases hf:f<0\/f>(n:Int)
    · rw [if_pos hf,if_neg (by decide)] at h;cases h
    · rw [if_neg hf,if_pos rfl] at h
      obtain ⟨F,rfl⟩:=Int.eq_ofNat_of_zero_le (show 0<=f by omega)
      refine ⟨A,F,rfl,rfl,by omega,?_,hT⟩
      cases ho:finB o with
      | true=>rfl
      | false=>rw [ho] at h;cases h
  · rename_i hc;exact absurd h hc
theorem run_45' {n m N:Nat} {cs ls:List AV} {b f:Int} {o:Option Nat} (h:Flos n cs) (h':Lvs m ls) (hN:n+m+5020<N):
    (fsM mzO waysR N 12).call (List RLeaf) 45 [.ofB (.list n cs),.s (.agg [.b (.int .i64 b),.b (.list m ls)]),.ofB (.int .i64 f),.ofB (.flo .f32 o)] [] (resK [false,false])=
    some [.v (.int .i64 (skV (seekE n (fO cs) b m ls f o) (firstH (fun j=>geS ((fO cs).getD j none) o) (n-f.toNat) f.toNat))),.v (.int .i64 (skE (seekE n (fO cs) b m ls f o) (firstH (fun j=>geS ((fO cs).getD j none) o) (n-f.toNat) f.toNat)))]:=by
  rw [run_45]
  have hl:=h'.2.1
  have hm:=h'.1
  have hxl:=h.len
  have hcl:=h.2.2
  have hN0:0<N:=by omega
  simp only [shut_eq,guardO_dec,h,h',put3n,ints3n,firstNZ_3,and_self,if_true,condO_bne]
  change ite (seekE n (fO cs) b m ls f o=0) _ _=_
  by_cases h0:seekE n (fO cs) b m ls f o=0
  case neg=>
    unfold skV skE
    rw [if_neg h0,if_neg h0,if_neg h0]
    rfl
  rw [if_pos h0,h0]
  obtain ⟨A,F,rfl,rfl,hFn,ho,hT⟩:=seek_zero hxl h0
  have hA1:=hT.one
  have hA2:=hT.most
  have hfew:=hT.few
  clear h0
  rw [Int.toNat_natCast]
  change _=seekA (firstH (fun j=>geS ((fO cs).getD j none) o) (n-F) F)
  refine loopC_rule (fun k (r:Nat->List AV->Int->Int->Nat->List AV->Int->Nat->List AV->Option Nat->Int->Nat->List AV->Nat->List AV->Int->Nat->List AV->Nat->List AV->Int->List (AV × AV × Nat)->Nat->Nat->List AV->Nat->List AV->Int->Option (List RLeaf))=>∀ (i:Nat) (E:List PE) (pc:List AV),i+k=m->InvE (lenL ls) (pvL ls) E i 0->
    r m ls (m:Int) (i:Int) (n) (cs) (A:Int) (m) (ls) (o) (A:Int) (m) (ls) (3) pc (A:Int) (m) (ls) (0) ([]) ((0:Int)) (encE 0 E) E.length (0) ([]) (n) (cs) (A:Int)=seekA (firstH (fun j=>geS ((fO cs).getD j none) o) (n-F) F)) ?_ N m (by omega) 0 [] _ (by omega) InvE.nil
  intro k r ih i E pc hi hE
  by_cases hk:i<m
  · obtain ⟨q,ds,e1,e2,e3⟩:=h'.get hk
    have eL:=lvAt_of e1
    have p0:0<ls.length:=by omega
    have wi:IntKind.i64.wrap ((i:Int)+1)=((i+1:Nat):Int):=by rw [wrap64]<;>omega
    have hle:=e2.len
    have hdl:=e2.2.2
    have hq:lenL ls i=q:=by unfold lenL;rw [eL];omega
    have hfl:=(hT.lev i hk).finM
    rw [eL] at hfl
    simp only [condO_dec,guardO_dec,Int.ofNat_lt,hk,p0,if_true,Int.natCast_nonneg,true_and,and_true,Int.toNat_natCast,Nat.mul_one,e1,asList_list,bindO_ok]
    refine loopC_rule (fun k2 (r2:Int->Nat->List AV->Int->Int->Nat->List AV->Int->Int->Nat->List AV->Int->Nat->List AV->Option Nat->Int->Nat->List AV->Nat->List AV->Int->Nat->List AV->Nat->List AV->Int->List (AV × AV × Nat)->Nat->Nat->List AV->Nat->List AV->Int->Option (List RLeaf))=>∀ (j:Nat) (E:List PE),j+k2=q->InvE (lenL ls) (pvL ls) E i j->
      r2 (i:Int) m ls (m:Int) (i:Int) q ds (q:Int) (j:Int) (n) (cs) (A:Int) (m) (ls) (o) (A:Int) (m) (ls) (3) pc (A:Int) (m) (ls) (0) ([]) ((0:Int)) (encE 0 E) E.length (0) ([]) (n) (cs) (A:Int)=seekA (firstH (fun j=>geS ((fO cs).getD j none) o) (n-F) F)) ?_ N q (by omega) 0 E (by omega) hE
    intro k2 r2 ih2 j E hj hE
    by_cases hk2:j<q
    · have ge1:=e2.get (i:=2*j) (by omega)
      have ge2:=e2.get (i:=2*j+1) (by omega)
      have wj:IntKind.i64.wrap ((j:Int)+1)=((j+1:Nat):Int):=by rw [wrap64]<;>omega
      have q0:0<ds.length:=by omega
      have q1:(2*j+2<=ds.length)=True:=eq_true (by omega)
      have hcm:j*2=2*j:=by omega
      have f1:=finB_clean (hfl.get (i:=2*j) (by omega))
      have f2:=finB_clean (hfl.get (i:=2*j+1) (by omega))
      have hput:=put_node hE eL
      simp only [condO_dec,guardO_dec,Int.ofNat_lt,hk2,q0,q1,if_true,Int.natCast_nonneg,true_and,and_true,Int.toNat_natCast,hcm,ge1,ge2,bindO_ok,f1,f2,and_self,hput,wj]
      exact ih2 (k2-1) (by omega) (j+1) _ (by omega) hE.step
    · have:j=lenL ls i:=by omega
      subst this
      simp only [condO_dec,Int.ofNat_lt,hk2,if_false,wi]
      exact ih (k-1) (by omega) (i+1) E _ (by omega) hE.next
  have hik:i=m:=by omega
  simp only [condO_dec,Int.ofNat_lt,hk,if_false]
  rw [hik] at hE
  clear ih hi hk hik
  refine loopC_rule (fun k (r:Int->Nat->List AV->Int->Nat->List AV->Option Nat->Int->Nat->List AV->Nat->List AV->Int->Nat->List AV->Nat->List AV->Nat->List AV->Int->List (AV × AV × Nat)->Nat->Nat->List AV->Nat->List AV->Int->Nat->List AV->Int->Int->Int->Int->Int->Int->Option (List RLeaf))=>∀ (at_:Nat),F<=at_->at_<=n->n<at_+k->
    r (at_:Int) ((n)) ((cs)) ((A:Int)) ((m)) ((ls)) ((o)) ((A:Int)) ((m)) ((ls)) ((3)) (pc) ((A:Int)) ((m)) ((ls)) ((0)) (([])) ((n)) ((cs)) ((A:Int)) ((encE 0 E)) (E.length) ((0)) (([])) ((n)) ((cs)) ((A:Int)) ((n)) ((cs)) ((A:Int)) ((-1:Int)) ((A:Int)) ((↑(n):Int)) (F:Int) ((↑(n):Int))=seekA (firstH (fun j=>geS ((fO cs).getD j none) o) (n-at_) at_)) ?_ N 4098 (by omega) F (by omega) (by omega) (by omega)
  intro k r ih at_ ha1 ha2 hk
  obtain ⟨k,rfl⟩:∃ k',k=k' + 1:=⟨k-1,by omega⟩
  try simp only [condO_dec]
  by_cases hlt:at_<n
  case neg=>
    have hnl:¬ ((at_:Int)<(n:Int)):=by omega
    rw [if_neg hnl,firstH_end (by omega)]
    rfl
  have hyl:(at_:Int)<(n:Int):=by omega
  rw [if_pos hyl]
  have hb:=best_start (a:=(A:Int)) (n:=(n:Int)) (to:=(n:Int)) (at_:=(at_:Int)) (by omega) (by omega) (by omega) (by omega) _ rfl
  have hnode:=start_node (A:=A) (n:=n) (at_:=at_) (to:=(n:Int))
  generalize hr:bestC (n:Int) (n:Int) (at_:Int) 14 0 (A:Int) (-1,(at_:Int),(at_:Int)+1)=res at hb hnode
  obtain ⟨_,hb1,hb2,_⟩:=hb
  have han:at_<n:=by omega
  have hc0:0<cs.length:=by omega
  have beg:∀ (L I X:Int),(L,I,X)=res->L>=0->IntKind.i64.wrap (IntKind.i64.wrap (I*(A:Int))*(2:Int) ^ min L.toNat 64)=(at_:Int):=by
    intro L I X e hL
    subst e
    exact node_begin (by omega) (by omega) han (by omega) hnode hL
  rw [←hxl] at hnode
  have fin:∀ (L I E':Int),(L,I,E')=res->∃ En:Nat,E'=(En:Int)/\at_<En/\En<=n/\(geS (valN (fO cs) ls L I).2 o=false->∀ j,at_<=j->j<En->(fun j=>geS ((fO cs).getD j none) o) j=false):=by
    intro L I E' e
    subst e
    obtain ⟨v1,v2,v3⟩:=val_std hT (by omega) hnode
    dsimp only at v1 v2 v3
    obtain ⟨En,rfl⟩:=Int.eq_ofNat_of_zero_le (show 0<=E' by omega)
    rw [Int.toNat_natCast] at v1
    exact ⟨En,rfl,by omega,by omega,no_ge hT.fin v1 ho (by omega)⟩
  have look:∀ (L I X:Int),(L,I,X)=res->finB (valN (fO cs) ls L I).1=true/\finB (valN (fO cs) ls L I).2=true/\((L<0/\I=(at_:Int)/\X=((at_+1:Nat):Int)/\valN (fO cs) ls L I=(clean1 ((fO cs).getD at_ none),clean1 ((fO cs).getD at_ none)))\/
      (¬ L<0/\mlook Tryz.prog 130 62 (.agg [.int .i64 L,.int .i64 I]) (encE 0 E)=some (true,.agg [.flo .f32 (valN (fO cs) ls L I).1,.flo .f32 (valN (fO cs) ls L I).2]))):=by
    intro L I X e
    subst e
    exact node_look hT hE hnode (by omega)
  have wat:IntKind.i64.wrap ((at_:Int)+1)=(at_:Int)+1:=wrap64 (by omega) (by omega)
  rw [wat]
  refine loopC_rule (fun mm (r2:Int->Int->Int->Int->Nat->List AV->Int->Nat->List AV->Option Nat->Int->Nat->List AV->Nat->List AV->Int->Nat->List AV->Nat->List AV->Nat->List AV->Int->List (AV × AV × Nat)->Nat->Nat->List AV->Nat->List AV->Int->Nat->List AV->Int->Int->Int->Int->Int->Int->Int->Int->Option (List RLeaf))=>∀ (l s c1 c2 c3:Int),0<=l->l+mm<=13->1<=s->s<=8192->(n:Int)<s*2 ^ mm->bestC (n:Int) (n:Int) (at_:Int) (mm+1) l s (c1,c2,c3)=res->
    r2 (at_:Int) c3 l s (((n))) (((cs))) (((A:Int))) (((m))) (((ls))) (((o))) (((A:Int))) (((m))) (((ls))) (((3))) ((pc)) (((A:Int))) (((m))) (((ls))) (((0))) ((([]))) (((n))) (((cs))) (((A:Int))) (((encE 0 E))) ((E.length)) (((0))) ((([]))) (((n))) (((cs))) (((A:Int))) (((n))) (((cs))) (((A:Int))) (((-1:Int))) (((A:Int))) (((↑(n):Int))) ((F:Int)) (((↑(n):Int))) c1 c2=seekA (firstH (fun j=>geS ((fO cs).getD j none) o) (n-at_) at_)) ?_ N 13 (by omega) 0 (A:Int) (-1) (at_:Int) ((at_:Int)+1) (by omega) (by omega) (by omega) (by omega) (by omega) hr
  intro mm r2 ih2 l s c1 c2 c3 hl0 hlm hs1 hs2 hsn hbe
  have w1:IntKind.i64.wrap ((at_:Int)+s)=(at_:Int)+s:=wrap64 (by omega) (by omega)
  have w2:IntKind.i64.wrap (l+1)=l+1:=wrap64 (by omega) (by omega)
  have w3:IntKind.i64.wrap (2*s)=2*s:=wrap64 (by omega) (by omega)
  have w4:(at_:Int).tmod s=(at_:Int)%s:=Int.tmod_eq_emod_of_nonneg (by omega)
  have w5:(at_:Int).tdiv s=(at_:Int) / s:=Int.tdiv_eq_ediv_of_nonneg (by omega)
  have w6:IntKind.i64.wrap ((at_:Int) / s)=(at_:Int) / s:=by
    have:=Int.ediv_le_self s (show (0:Int)<=(at_:Int) by omega)
    have:=Int.ediv_nonneg (show (0:Int)<=(at_:Int) by omega) (show 0<=s by omega)
    rw [wrap64 (by omega) (by omega)]
  have nz:(s≠0)=True:=eq_true (by omega)
  simp only [condO_dec,guardO_dec,nz,if_true,w1,w2,w3,w4,w5,w6,ite_min,condO_sf,bindO_ok]
  rw [bestC] at hbe
  by_cases hok:(at_:Int)%s=0/\min (n:Int) ((at_:Int)+s)<=(n:Int)
  · have e1:(((at_:Int)%s==0)&&decide (min (n:Int) ((at_:Int)+s)<=(n:Int)))=true:=by rw [hok.1,decide_eq_true hok.2];rfl
    rw [e1,condO_tx]
    rw [if_pos hok] at hbe
    by_cases hn:(n:Int)<=s
    · rw [if_pos hn] at hbe
      rw [if_pos (show s>=(n:Int) from hn)]
      obtain ⟨En,hEn,s1,s2,s3⟩:=fin _ _ _ hbe
      rw [hEn]
      have ih1:=ih k (by omega) En (by omega) (by omega) (by omega)
      have sz:En<9223372036854775808:=by omega
      have hbg:=beg _ _ _ hbe
      obtain ⟨g1,g2,⟨g3,g4,g6,g5⟩ | ⟨g3,g5⟩⟩:=look _ _ _ hbe
      · have hgF:=h.get (i:=at_) (by omega)
        have fz:=finB_clean (hT.fin.get (i:=at_) (by omega))
        have g7:¬ (l>=0):=by omega
        simp only [condO_dec,g3,g4,g7,if_true,if_false,guardO_dec,Int.natCast_nonneg,Int.ofNat_lt,han,hc0,and_self,Int.toNat_natCast,Nat.mul_one,hgF,bindO_ok,joinC_pos hN0,fz]
        by_cases hv:geS (valN (fO cs) ls l ((at_:Int) / s)).2 o=true
        · have hv':=hv
          rw [g5] at hv'
          refine condO_f' (congrArg not hv') ?_
          refine loopC_rule (fun k3 (r3:Int->Int->Nat->List AV->Int->Nat->List AV->Option Nat->Int->Nat->List AV->Nat->List AV->Int->Nat->List AV->Nat->List AV->Nat->List AV->Int->List (AV × AV × Nat)->Nat->Nat->List AV->Nat->List AV->Int->Nat->List AV->Int->Int->Int->Int->Int->Int->Int->Int->Int->Int->Option (List RLeaf))=>∀ (j:Nat) (y1 y2 y3 y4:Int),j+k3=En->
            r3 (En:Int) (j:Int) (((n))) (((cs))) (((A:Int))) (((m))) (((ls))) (((o))) (((A:Int))) (((m))) (((ls))) (((3))) ((pc)) (((A:Int))) (((m))) (((ls))) (((0))) ((([]))) (((n))) (((cs))) (((A:Int))) (((encE 0 E))) ((E.length)) (((0))) ((([]))) (((n))) (((cs))) (((A:Int))) (((n))) (((cs))) (((A:Int))) (((-1:Int))) (((A:Int))) (((↑(n):Int))) ((F:Int)) (((↑(n):Int))) y1 y2 y3 y4=seekA (firstH (fun j=>geS ((fO cs).getD j none) o) (n-j) j)) ?_ N (En-at_) (by omega) at_ _ _ _ _ (by omega)
          intro k3 r3 ih3 j y1 y2 y3 y4 hj
          by_cases hk3:j<En
          · have hgj:=h.get (i:=j) (by omega)
            have hjn:j<n:=by omega
            have wj:IntKind.i64.wrap ((j:Int)+1)=((j+1:Nat):Int):=by rw [wrap64]<;>omega
            simp only [condO_dec,guardO_dec,Int.natCast_nonneg,Int.ofNat_lt,hk3,hjn,hc0,and_self,if_true,Int.toNat_natCast,Nat.mul_one,hgj,bindO_ok,wj]
            by_cases hp:(fun j=>geS ((fO cs).getD j none) o) j=true
            · rw [firstH_hit hjn hp]
              exact condO_t' hp rfl
            · have hp:(fun j=>geS ((fO cs).getD j none) o) j=false:=by simpa using hp
              rw [firstH_to (En:=j+1) (by omega) (by omega) (fun i a b=>by (have q:i=j:=by omega);subst q;exact hp)]
              exact condO_f' hp (ih3 (k3-1) (by omega) (j+1) _ _ _ _ (by omega))
          · have:j=En:=by omega
            subst this
            simp only [condO_dec,Int.ofNat_lt,hk3,if_false]
            exact ih1
        · have hv':geS (valN (fO cs) ls l ((at_:Int) / s)).2 o=false:=by simpa using hv
          have hs:=firstH_to (p:=(fun j=>geS ((fO cs).getD j none) o)) (Nat.le_of_lt s1) s2 (s3 hv')
          rw [g5] at hv'
          rw [hs]
          exact condO_t' (congrArg not hv') ih1
      · have g7:l>=0:=by omega
        have g8:=hbg g7
        simp only [condO_dec,g3,if_false,g5,bindO_ok,asAgg_agg,List.length_cons,List.length_nil,guardO_dec,if_true,List.getD_cons_zero,List.tail_cons,asF_flo,joinC_pos hN0,g7,g8,and_self]
        by_cases hv:geS (valN (fO cs) ls l ((at_:Int) / s)).2 o=true
        · refine condO_f' (congrArg not hv) ?_
          refine loopC_rule (fun k3 (r3:Int->Int->Nat->List AV->Int->Nat->List AV->Option Nat->Int->Nat->List AV->Nat->List AV->Int->Nat->List AV->Nat->List AV->Nat->List AV->Int->List (AV × AV × Nat)->Nat->Nat->List AV->Nat->List AV->Int->Nat->List AV->Int->Int->Int->Int->Int->Int->Int->Int->Int->Int->Option (List RLeaf))=>∀ (j:Nat) (y1 y2 y3 y4:Int),j+k3=En->
            r3 (En:Int) (j:Int) (((n))) (((cs))) (((A:Int))) (((m))) (((ls))) (((o))) (((A:Int))) (((m))) (((ls))) (((3))) ((pc)) (((A:Int))) (((m))) (((ls))) (((0))) ((([]))) (((n))) (((cs))) (((A:Int))) (((encE 0 E))) ((E.length)) (((0))) ((([]))) (((n))) (((cs))) (((A:Int))) (((n))) (((cs))) (((A:Int))) (((-1:Int))) (((A:Int))) (((↑(n):Int))) ((F:Int)) (((↑(n):Int))) y1 y2 y3 y4=seekA (firstH (fun j=>geS ((fO cs).getD j none) o) (n-j) j)) ?_ N (En-at_) (by omega) at_ _ _ _ _ (by omega)
          intro k3 r3 ih3 j y1 y2 y3 y4 hj
          by_cases hk3:j<En
          · have hgj:=h.get (i:=j) (by omega)
            have hjn:j<n:=by omega
            have wj:IntKind.i64.wrap ((j:Int)+1)=((j+1:Nat):Int):=by rw [wrap64]<;>omega
            simp only [condO_dec,guardO_dec,Int.natCast_nonneg,Int.ofNat_lt,hk3,hjn,hc0,and_self,if_true,Int.toNat_natCast,Nat.mul_one,hgj,bindO_ok,wj]
            by_cases hp:(fun j=>geS ((fO cs).getD j none) o) j=true
            · rw [firstH_hit hjn hp]
              exact condO_t' hp rfl
            · have hp:(fun j=>geS ((fO cs).getD j none) o) j=false:=by simpa using hp
              rw [firstH_to (En:=j+1) (by omega) (by omega) (fun i a b=>by (have q:i=j:=by omega);subst q;exact hp)]
              exact condO_f' hp (ih3 (k3-1) (by omega) (j+1) _ _ _ _ (by omega))
          · have:j=En:=by omega
            subst this
            simp only [condO_dec,Int.ofNat_lt,hk3,if_false]
            exact ih1
        · have hv':geS (valN (fO cs) ls l ((at_:Int) / s)).2 o=false:=by simpa using hv
          rw [firstH_to (p:=(fun j=>geS ((fO cs).getD j none) o)) (Nat.le_of_lt s1) s2 (s3 hv')]
          exact condO_t' (congrArg not hv') ih1
    · rw [if_neg hn] at hbe
      rw [if_neg (show ¬ s>=(n:Int) from hn)]
      obtain ⟨mm,rfl⟩:∃ m',mm=m' + 1:=by
        cases mm with
        | zero=>omega
        | succ mm=>exact ⟨mm,rfl⟩
      refine ih2 mm (by omega) (l+1) (2*s) l ((at_:Int) / s) (min (n:Int) ((at_:Int)+s)) (by omega) (by omega) (by omega) (by omega) ?_ hbe
      rw [Int.pow_succ] at hsn;rw [Int.mul_comm 2 s,Int.mul_assoc,Int.mul_comm 2];exact hsn
  · have e1:(((at_:Int)%s==0)&&decide (min (n:Int) ((at_:Int)+s)<=(n:Int)))=false:=by
      rw [Bool.and_eq_false_iff]
      by_cases hz:(at_:Int)%s=0
      · exact .inr (decide_eq_false fun h=>hok ⟨hz,h⟩)
      · exact .inl (beq_eq_false_iff_ne.2 hz)
    rw [e1,condO_fx]
    rw [if_neg hok] at hbe
    obtain ⟨En,hEn,s1,s2,s3⟩:=fin _ _ _ hbe
    rw [hEn]
    have ih1:=ih k (by omega) En (by omega) (by omega) (by omega)
    have sz:En<9223372036854775808:=by omega
    have hbg:=beg _ _ _ hbe
    obtain ⟨g1,g2,⟨g3,g4,g6,g5⟩ | ⟨g3,g5⟩⟩:=look _ _ _ hbe
    · have hgF:=h.get (i:=at_) (by omega)
      have fz:=finB_clean (hT.fin.get (i:=at_) (by omega))
      have g7:¬ (c1>=0):=by omega
      simp only [condO_dec,g3,g4,g7,if_true,if_false,guardO_dec,Int.natCast_nonneg,Int.ofNat_lt,han,hc0,and_self,Int.toNat_natCast,Nat.mul_one,hgF,bindO_ok,joinC_pos hN0,fz]
      by_cases hv:geS (valN (fO cs) ls c1 c2).2 o=true
      · have hv':=hv
        rw [g5] at hv'
        refine condO_f' (congrArg not hv') ?_
        refine loopC_rule (fun k3 (r3:Int->Int->Nat->List AV->Int->Nat->List AV->Option Nat->Int->Nat->List AV->Nat->List AV->Int->Nat->List AV->Nat->List AV->Nat->List AV->Int->List (AV × AV × Nat)->Nat->Nat->List AV->Nat->List AV->Int->Nat->List AV->Int->Int->Int->Int->Int->Int->Int->Int->Int->Int->Option (List RLeaf))=>∀ (j:Nat) (y1 y2 y3 y4:Int),j+k3=En->
          r3 (En:Int) (j:Int) (((n))) (((cs))) (((A:Int))) (((m))) (((ls))) (((o))) (((A:Int))) (((m))) (((ls))) (((3))) ((pc)) (((A:Int))) (((m))) (((ls))) (((0))) ((([]))) (((n))) (((cs))) (((A:Int))) (((encE 0 E))) ((E.length)) (((0))) ((([]))) (((n))) (((cs))) (((A:Int))) (((n))) (((cs))) (((A:Int))) (((-1:Int))) (((A:Int))) (((↑(n):Int))) ((F:Int)) (((↑(n):Int))) y1 y2 y3 y4=seekA (firstH (fun j=>geS ((fO cs).getD j none) o) (n-j) j)) ?_ N (En-at_) (by omega) at_ _ _ _ _ (by omega)
        intro k3 r3 ih3 j y1 y2 y3 y4 hj
        by_cases hk3:j<En
        · have hgj:=h.get (i:=j) (by omega)
          have hjn:j<n:=by omega
          have wj:IntKind.i64.wrap ((j:Int)+1)=((j+1:Nat):Int):=by rw [wrap64]<;>omega
          simp only [condO_dec,guardO_dec,Int.natCast_nonneg,Int.ofNat_lt,hk3,hjn,hc0,and_self,if_true,Int.toNat_natCast,Nat.mul_one,hgj,bindO_ok,wj]
          by_cases hp:(fun j=>geS ((fO cs).getD j none) o) j=true
          · rw [firstH_hit hjn hp]
            exact condO_t' hp rfl
          · have hp:(fun j=>geS ((fO cs).getD j none) o) j=false:=by simpa using hp
            rw [firstH_to (En:=j+1) (by omega) (by omega) (fun i a b=>by (have q:i=j:=by omega);subst q;exact hp)]
            exact condO_f' hp (ih3 (k3-1) (by omega) (j+1) _ _ _ _ (by omega))
        · have:j=En:=by omega
          subst this
          simp only [condO_dec,Int.ofNat_lt,hk3,if_false]
          exact ih1
      · have hv':geS (valN (fO cs) ls c1 c2).2 o=false:=by simpa using hv
        have hs:=firstH_to (p:=(fun j=>geS ((fO cs).getD j none) o)) (Nat.le_of_lt s1) s2 (s3 hv')
        rw [g5] at hv'
        rw [hs]
        exact condO_t' (congrArg not hv') ih1
    · have g7:c1>=0:=by omega
      have g8:=hbg g7
      simp only [condO_dec,g3,if_false,g5,bindO_ok,asAgg_agg,List.length_cons,List.length_nil,guardO_dec,if_true,List.getD_cons_zero,List.tail_cons,asF_flo,joinC_pos hN0,g7,g8,and_self]
      by_cases hv:geS (valN (fO cs) ls c1 c2).2 o=true
      · refine condO_f' (congrArg not hv) ?_
        refine loopC_rule (fun k3 (r3:Int->Int->Nat->List AV->Int->Nat->List AV->Option Nat->Int->Nat->List AV->Nat->List AV->Int->Nat->List AV->Nat->List AV->Nat->List AV->Int->List (AV × AV × Nat)->Nat->Nat->List AV->Nat->List AV->Int->Nat->List AV->Int->Int->Int->Int->Int->Int->Int->Int->Int->Int->Option (List RLeaf))=>∀ (j:Nat) (y1 y2 y3 y4:Int),j+k3=En->
          r3 (En:Int) (j:Int) (((n))) (((cs))) (((A:Int))) (((m))) (((ls))) (((o))) (((A:Int))) (((m))) (((ls))) (((3))) ((pc)) (((A:Int))) (((m))) (((ls))) (((0))) ((([]))) (((n))) (((cs))) (((A:Int))) (((encE 0 E))) ((E.length)) (((0))) ((([]))) (((n))) (((cs))) (((A:Int))) (((n))) (((cs))) (((A:Int))) (((-1:Int))) (((A:Int))) (((↑(n):Int))) ((F:Int)) (((↑(n):Int))) y1 y2 y3 y4=seekA (firstH (fun j=>geS ((fO cs).getD j none) o) (n-j) j)) ?_ N (En-at_) (by omega) at_ _ _ _ _ (by omega)
        intro k3 r3 ih3 j y1 y2 y3 y4 hj
        by_cases hk3:j<En
        · have hgj:=h.get (i:=j) (by omega)
          have hjn:j<n:=by omega
          have wj:IntKind.i64.wrap ((j:Int)+1)=((j+1:Nat):Int):=by rw [wrap64]<;>omega
          simp only [condO_dec,guardO_dec,Int.natCast_nonneg,Int.ofNat_lt,hk3,hjn,hc0,and_self,if_true,Int.toNat_natCast,Nat.mul_one,hgj,bindO_ok,wj]
          by_cases hp:(fun j=>geS ((fO cs).getD j none) o) j=true
          · rw [firstH_hit hjn hp]
            exact condO_t' hp rfl
          · have hp:(fun j=>geS ((fO cs).getD j none) o) j=false:=by simpa using hp
            rw [firstH_to (En:=j+1) (by omega) (by omega) (fun i a b=>by (have q:i=j:=by omega);subst q;exact hp)]
            exact condO_f' hp (ih3 (k3-1) (by omega) (j+1) _ _ _ _ (by omega))
        · have:j=En:=by omega
          subst this
          simp only [condO_dec,Int.ofNat_lt,hk3,if_false]
          exact ih1
      · have hv':geS (valN (fO cs) ls c1 c2).2 o=false:=by simpa using hv
        rw [firstH_to (p:=(fun j=>geS ((fO cs).getD j none) o)) (Nat.le_of_lt s1) s2 (s3 hv')]
        exact condO_t' (congrArg not hv') ih1
end Go.Abs
end
