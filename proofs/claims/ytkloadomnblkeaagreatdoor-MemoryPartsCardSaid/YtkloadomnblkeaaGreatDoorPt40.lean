/- Part 40 of the library that the proof of the statement uses: an abstract run of the program, proved right, and what its functions give. -/
import Derived.Test.YtkloadomnblkeaaGreatDoorPt33
import Derived.Test.YtkloadomnblkeaaGreatDoorPt36
import Derived.Test.YtkloadomnblkeaaGreatDoorPt38
import Derived.Test.YtkloadomnblkeaaGreatDoorPt39
set_option linter.unusedVariables false
set_option linter.unusedSimpArgs false

noncomputable section
namespace Go.Abs
open Go.Proofs Classical
def covE (a n f t:Int):Int:=if a<1\/a>256 then 3 else if n<0\/n>4096 then 3 else if f<0\/f>n then 3 else if t<0\/t>n then 3 else if t<f then 11 else 0
def covL (a n f t:Int):List Int:=if covE a n f t=0 then coverL a n t 4097 f else []
theorem run_30' {a n f t:Int}:(fsM mzC waysP 5000 12).call (List RLeaf) 30 [.ofB (.int .i64 a),.ofB (.int .i64 n),.ofB (.int .i64 f),.ofB (.int .i64 t)] [] (resK [true,false])=
  some [.fz ((covL a n f t).length / 2) (numsL .i64 (covL a n f t)),.v (.int .i64 (covE a n f t))]:=by
 rw [run_30]
 have he:(if (if a<1\/a>256 then (3:Int) else 0)=0 then (if (if n<0\/n>4096 then (3:Int) else 0)=0 then (if f<0\/f>n then 3 else if t<0\/t>n then 3 else if t<f then 11 else 0) else (if n<0\/n>4096 then (3:Int) else 0)) else (if a<1\/a>256 then (3:Int) else 0))=covE a n f t:=by
  unfold covE
  by_cases h1:a<1\/a>256
  ·rw [if_pos h1,if_pos h1];rfl
  ·rw [if_neg h1,if_neg h1,if_pos rfl]
   by_cases h2:n<0\/n>4096
   ·rw [if_pos h2,if_pos h2];rfl
   ·rw [if_neg h2,if_neg h2,if_pos rfl]
 simp only [shut_eq,guardO_dec,put3n,ints3n,if_true,firstNZ_3,he,condO_bne]
 by_cases h0:covE a n f t=0
 case neg=>rw [if_neg h0];unfold covL;rw [if_neg h0];rfl
 rw [if_pos h0]
 unfold covL
 rw [if_pos h0,h0]
 have hv:1<=a/\a<=256/\0<=n/\n<=4096/\0<=f/\f<=n/\0<=t/\t<=n/\f<=t:=by
  unfold covE at h0
  repeat' (split at h0)
  all_goals omega
 clear he h0
 obtain ⟨v1,v2,v3,v4,v5,v6,v7,v8,v9⟩:=hv
 refine (loopC_rule (fun k (r:Int->Nat->List AV->Nat->List AV->Nat->List AV->Int->Int->Int->Int->Option (List RLeaf))=>∀ (i:Int) (acc:List Int) (c:Nat) (x1:Nat) (x2:List AV) (x3:Nat) (x4:List AV),0<=i->i<=t->t-i<k->acc.length=2*c->c+k<=5000->
  r i x1 x2 x3 x4 c (numsL .i64 acc) a n f t=some [.fz ((acc++coverL a n t k i).length / 2) (numsL .i64 (acc++coverL a n t k i)),.v (.int .i64 0)]) ?_ 5000 4097 (by omega) f [] 0 _ _ _ _ v5 v9 (by omega) (by simp) (by omega)).trans (by simp)
 intro k r ih i acc c x1 x2 x3 x4 hi0 hit hk hacc hck
 obtain ⟨k,rfl⟩:∃ k',k=k' + 1:=⟨k-1,by omega⟩
 rw [coverL]
 simp only [shut_eq,condO_dec]
 by_cases hlt:i<t
 case neg=>rw [if_neg hlt,if_neg hlt,List.append_nil,hacc,Nat.mul_div_cancel_left _ (by omega)]
 rw [if_pos hlt,if_pos hlt]
 have hb:=best_start (a:=a) (n:=n) hi0 hlt v8 v1 _ rfl
 generalize hr:bestC n t i 14 0 a (-1,i,i+1)=res at hb ⊢
 obtain ⟨q0,q1,q2,q3,q4,q5,q6⟩:=hb
 have fin:∀ (L I E:Int),(L,I,E)=res->r E x1 x2 x3 x4 (c+1) (numsL .i64 acc++putCells (zrow (ofV (Go.Value.agg #[Go.Value.int IntKind.i64 (0:Int),Go.Value.int IntKind.i64 (0:Int)])).cells 2) 0 [AV.int IntKind.i64 L,AV.int IntKind.i64 I]) a n f t=
   some [.fz ((acc++([res.1,res.2.1]++coverL a n t k res.2.2)).length / 2) (numsL .i64 (acc++([res.1,res.2.1]++coverL a n t k res.2.2))),.v (.int .i64 0)]:=by
  intro L I E e
  subst e
  dsimp only at q1 q2
  rw [put2a,←numsL_app]
  have:=ih k (by omega) E (acc++[L,I]) (c+1) x1 x2 x3 x4 (by omega) q2 (by omega) (by simp;omega) (by omega)
  simpa using this
 have hc17:(c+1)*17<=549755813888:=by omega
 rw [wrap64 (z:=i+1) (by omega) (by omega)]
 refine loopC_rule (fun m (r2:Int->Int->Int->Int->Nat->List AV->Nat->List AV->Nat->List AV->Int->Int->Int->Int->Int->Int->Option (List RLeaf))=>∀ (l s c1 c2 c3:Int),0<=l->l+m<=13->1<=s->s<=8192->n<s*2 ^ m->bestC n t i (m+1) l s (c1,c2,c3)=res->
  r2 i c3 l s x1 x2 x3 x4 c (numsL .i64 acc) a n f t c1 c2=some [.fz ((acc++([res.1,res.2.1]++coverL a n t k res.2.2)).length / 2) (numsL .i64 (acc++([res.1,res.2.1]++coverL a n t k res.2.2))),.v (.int .i64 0)]) ?_ 5000 13 (by omega) 0 a (-1) i (i+1) (by omega) (by omega) v1 (by omega) (by omega) hr
 intro m r2 ih2 l s c1 c2 c3 hl0 hlm hs1 hs2 hsn hbe
 have w1:IntKind.i64.wrap (i+s)=i+s:=wrap64 (by omega) (by omega)
 have w2:IntKind.i64.wrap (l+1)=l+1:=wrap64 (by omega) (by omega)
 have w3:IntKind.i64.wrap (2*s)=2*s:=wrap64 (by omega) (by omega)
 have w4:i.tmod s=i%s:=Int.tmod_eq_emod_of_nonneg hi0
 have w5:i.tdiv s=i / s:=Int.tdiv_eq_ediv_of_nonneg hi0
 have w6:IntKind.i64.wrap (i / s)=i / s:=by
  have:=Int.ediv_le_self s hi0
  have:=Int.ediv_nonneg hi0 (show 0<=s by omega)
  rw [wrap64 (by omega) (by omega)]
 have nz:(s≠0)=True:=eq_true (by omega)
 simp only [shut_eq,condO_dec,guardO_dec,nz,if_true,w1,w2,w3,w4,w5,w6,hc17,ite_min,condO_sf,bindO_ok]
 rw [bestC] at hbe
 by_cases hok:i%s=0/\min n (i+s)<=t
 ·have e1:((i%s==0)&&decide (min n (i+s)<=t))=true:=by rw [hok.1,decide_eq_true hok.2];rfl
  rw [e1,condO_tx]
  rw [if_pos hok] at hbe
  by_cases hn:n<=s
  ·rw [if_pos hn] at hbe
   rw [if_pos (show s>=n from hn)]
   exact fin _ _ _ hbe
  ·rw [if_neg hn] at hbe
   rw [if_neg (show ¬ s>=n from hn)]
   obtain ⟨m,rfl⟩:∃ m',m=m' + 1:=by
    cases m with
    | zero=>omega
    | succ m=>exact ⟨m,rfl⟩
   refine ih2 m (by omega) (l+1) (2*s) l (i / s) (min n (i+s)) (by omega) (by omega) (by omega) (by omega) ?_ hbe
   rw [Int.pow_succ] at hsn;rw [Int.mul_comm 2 s,Int.mul_assoc,Int.mul_comm 2];exact hsn
 ·have e1:((i%s==0)&&decide (min n (i+s)<=t))=false:=by
   rw [Bool.and_eq_false_iff]
   by_cases hz:i%s=0
   ·exact .inr (decide_eq_false fun h=>hok ⟨hz,h⟩)
   ·exact .inl (beq_eq_false_iff_ne.2 hz)
  rw [e1,condO_fx]
  rw [if_neg hok] at hbe
  exact fin _ _ _ hbe
end Go.Abs
end
noncomputable section
namespace Go.Abs
open Go.Proofs Classical
def eCover:Ent:=fun args' R K=>match args' with
 | [.int .i64 a,.int .i64 n,.int .i64 f,.int .i64 t]=>K [.fz (S_ ((covL a n f t).length / 2)) (S_ (numsL .i64 (covL a n f t))),.v (.int .i64 (S_ (covE a n f t)))]
 | _=>none
theorem eCover_30:EntOk Tryz.prog 30 eCover:=by
 intro args' R K r ha h
 unfold eCover at h
 split at h
 ·rename_i a n f t
  refine ⟨[.fz ((covL a n f t).length / 2) (numsL .i64 (covL a n f t)),.v (.int .i64 (covE a n f t))],fun _ _=>by simp only [eCover,shut_eq],?_,con_of mzC_ok (W:=waysP) (N:=5000) (k:=12) (ms:=[true,false]) ?_ ha ⟨numsL_plain,trivial⟩⟩
  ·intro l hl;rcases List.mem_cons.1 hl with rfl | hl
   ·exact (leaf_fz (numsL_plain))
   rcases List.mem_cons.1 hl with rfl | hl
   ·exact leaf_int
   cases hl
  ·exact run_30'
 ·cases h
end Go.Abs
end
set_option maxRecDepth 100000
noncomputable section
namespace Go.Abs
open Go.Proofs Classical
def fewB (n:Nat) (xs:List (Option Nat)) (b:Int):Bool:=decide (n<=64/\sampErr n xs=0/\1<=b/\b<=256)
theorem run_77' {n:Nat} {b:Int} {cs:List AV} (h:Flos n cs):(fsM mzR waysQ 1 12).call (List RLeaf) 77 [.s (.agg [.b (.list n cs),.b (.int .i64 b)])] [] (resK [false])=some [.v (.bool (fewB n (fO cs) b))]:=by
 rw [run_77]
 unfold fewB
 simp only [shut_eq,guardO_dec,h,if_true]
 by_cases h1:n<=64
 ·have e1:decide ((n:Int)<=64)=true:=decide_eq_true (by omega)
  rw [e1,condO_tx,bindO_ok]
  by_cases h2:sampErr n (fO cs)=0
  ·rw [beq_iff_eq.2 h2,condO_tx]
   by_cases h3:b<1\/b>256
   ·rw [if_pos h3,decide_eq_false (by omega)];rfl
   ·rw [if_neg h3,decide_eq_true (by omega)];rfl
  ·rw [beq_eq_false_iff_ne.2 h2,condO_fx,decide_eq_false (fun hh=>h2 hh.2.1)];rfl
 ·have e1:decide ((n:Int)<=64)=false:=decide_eq_false (by omega)
  rw [e1,condO_fx,bindO_ok,decide_eq_false (fun hh=>h1 hh.1)];rfl
def eFew:Ent:=fun args' R K=>match args' with
 | [.agg [.list n cs,.int .i64 b]]=>gO (S_ (decide (Flos n cs))) (K [.v (.bool (S_ (fewB n (fO cs) b)))])
 | _=>none
theorem eFew_77:EntOk Tryz.prog 77 eFew:=by
 intro args' R K r ha h
 unfold eFew at h
 split at h
 ·rename_i n cs b
  obtain ⟨h1,h2⟩:=guardO_some h
  rw [shut_eq] at h1
  have h1':=of_decide_eq_true h1
  refine ⟨[.v (.bool (fewB n (fO cs) b))],fun _ _=>by simp only [eFew,shut_eq,decide_eq_true h1',gO],?_,con_of mzR_ok (W:=waysQ) (N:=1) (k:=12) (ms:=[false]) ?_ ha trivial⟩
  ·intro l hl;rcases List.mem_cons.1 hl with rfl | hl
   ·exact leaf_bool
   cases hl
  ·exact run_77' h1'
 ·cases h
def mzS:List (FuncId × Ent):=(77,eFew)::(30,eCover)::mzR
theorem mzS_ok:TabLOk Tryz.prog mzS:=⟨eFew_77,eCover_30,mzR_ok⟩
end Go.Abs
end
