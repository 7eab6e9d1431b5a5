/- Part 19 of the library of the proof: an abstract run of the program. -/
import Derived.Test.YtkloadomnblkeaaGreatDoorAp18
set_option linter.unusedVariables false
set_option linter.unusedSimpArgs false

noncomputable section
namespace Go.Abs
open Go.Proofs Classical Go.Abs.Fin
def setLast (acc:List (Option Nat)) (x:Option Nat × Option Nat):List (Option Nat):=
 (acc.set (acc.length-2) (minO (acc.getD (acc.length-2) none) x.1)).set (acc.length-1) (maxO (acc.getD (acc.length-1) none) x.2)
def grpF (a:Nat):Nat->List (Option Nat)->List (Option Nat × Option Nat)->List (Option Nat)
 | _,acc,[]=>acc
 | i,acc,x::l=>if i%a=0 then grpF a (i+1) (acc++[x.1,x.2]) l else grpF a (i+1) (setLast acc x) l
def dupC (xs:List (Option Nat)):List (Option Nat × Option Nat):=xs.map fun x=>(clean1 x,clean1 x)
def pairsF:List (Option Nat)->List (Option Nat × Option Nat)
 | a::b::l=>(a,b)::pairsF l
 | _=>[]
def FinL (l:List (Option Nat)):Prop:=∀ x∈l,finB x=true
theorem FinL.get {l:List (Option Nat)} (h:FinL l) {i:Nat} (hi:i<l.length):finB (l.getD i none)=true:=by
 rw [List.getD_eq_getElem?_getD,List.getElem?_eq_getElem hi];exact h _ (List.getElem_mem _)
theorem FinL.app {l l':List (Option Nat)} (h:FinL l) (h':FinL l'):FinL (l++l'):=fun x hx=>(List.mem_append.1 hx).elim (h x) (h' x)
theorem FinL.set {l:List (Option Nat)} (h:FinL l) {i:Nat} {x:Option Nat} (hx:finB x=true):FinL (l.set i x):=fun y hy=>by
 rcases List.mem_or_eq_of_mem_set hy with hy | rfl
 ·exact h y hy
 ·exact hx
theorem setLast_len {acc:List (Option Nat)} {x:Option Nat × Option Nat}:(setLast acc x).length=acc.length:=by simp [setLast]
theorem setLast_fin {acc:List (Option Nat)} {x:Option Nat × Option Nat} (h:FinL acc) (h2:2<=acc.length) (h1:finB x.1=true) (h3:finB x.2=true):FinL (setLast acc x):=
 (h.set (minO_fin (h.get (by omega)) h1).2.1).set (maxO_fin (h.get (by omega)) h3).2.1
theorem put_pair {acc:List (Option Nat)} {i:Nat} {a b:Option Nat}:putCells (flosL acc) i [AV.flo .f32 a,AV.flo .f32 b]=flosL ((acc.set i a).set (i+1) b):=by
 simp [flosL,putCells,List.map_set]
theorem put_pairN (a b:Option Nat):putCells (zrow (ofV (Go.Value.agg #[Go.Value.float Go.FloatKind.f32 0,Go.Value.float Go.FloatKind.f32 0])).cells 2) 0 [AV.flo Go.FloatKind.f32 a,AV.flo Go.FloatKind.f32 b]=flosL [a,b]:=rfl
theorem tmod_beq {i a:Nat} (ha:1<=a):(((i:Int).tmod (a:Int))==0)=decide (i%a=0):=by
 rw [Int.tmod_eq_emod_of_nonneg (by omega),←Int.natCast_emod]
 by_cases h:i%a=0
 ·rw [h];rfl
 ·rw [decide_eq_false h];exact beq_eq_false_iff_ne.2 (by omega)
theorem run_128' {n a:Nat} {cs:List AV} (h:Flos n cs) (hn:n<=100000) (hf:FinL (fO cs)) (ha:1<=a) (ha2:a<=100000):
  (fsM mzH waysP (n+1) 12).call (List RLeaf) 128 [.ofB (.list n cs),.ofB (.int .i64 (a:Int)),.s (.o (.fn 129 [] [])),.s (.o (.fn 130 [] []))] [] (resK [true])=
  some [.fz ((grpF a 0 [] (dupC (fO cs))).length / 2) (flosL (grpF a 0 [] (dupC (fO cs))))]:=by
 rw [run_128]
 have hl:=h.len
 have hcl:=h.2.2
 refine loopC_rule (fun k (r:Int->Nat->List AV->Int->Int->Nat->List AV->Nat->List AV->Option (List RLeaf))=>∀ (i c:Nat) (acc:List (Option Nat)) (x5:Nat) (x6:List AV),i+k=n->acc.length=2*c->c<=i->(0<i->0<c)->FinL acc->
  r (a:Int) n cs (n:Int) (i:Int) x5 x6 c (flosL acc)=some [.fz ((grpF a i acc ((dupC (fO cs)).drop i)).length / 2) (flosL (grpF a i acc ((dupC (fO cs)).drop i)))]) ?_ (n+1) n (by omega) 0 0 [] _ _ (by omega) rfl (by omega) (by omega) (fun x hx=>by cases hx)
 intro k r ih i c acc x5 x6 hi hacc hci hc0 hfa
 by_cases hk:i<n
 ·have hlt:i<(dupC (fO cs)).length:=by rw [dupC,List.length_map,hl];exact hk
  rw [drop_cons (d:=(none,none)) hlt,grpF]
  have hx:(dupC (fO cs)).getD i (none,none)=(clean1 ((fO cs).getD i none),clean1 ((fO cs).getD i none)):=by
   rw [dupC,List.getD_eq_getElem?_getD,List.getD_eq_getElem?_getD,List.getElem?_map,List.getElem?_eq_getElem (by omega)];rfl
  have hfx:=hf.get (i:=i) (by omega)
  rw [hx]
  have hfc:=finB_clean hfx
  have wi:=idx64 h.1 hk
  have p0:0<cs.length:=by omega
  have nz:((a:Int)≠0)=True:=eq_true (by omega)
  have nx:grpF a (i+1)=grpF a (i+1):=rfl
  simp only [shut_eq,condO_dec,guardO_dec,Int.ofNat_lt,hk,p0,if_true,Int.natCast_nonneg,true_and,and_true,Nat.mul_one,Int.toNat_natCast,h.get hk,bindO_ok,nz,tmod_beq ha,wi]
  by_cases hm:i%a=0
  ·have g5:((c+1)*9<=549755813888)=True:=eq_true (by omega)
   simp only [hm,if_true,g5,put_pairN,←flosL_app]
   exact ih (k-1) (by omega) (i+1) (c+1) (acc++[clean1 ((fO cs).getD i none),clean1 ((fO cs).getD i none)]) _ _ (by omega) (by simp [hacc];omega) (by omega) (by omega) (hfa.app (by intro y hy;simp only [List.mem_cons,List.not_mem_nil,or_false,or_self] at hy;subst hy;exact hfc))
  ·have hi1:0<i:=Nat.pos_of_ne_zero fun h0=>by subst h0;simp at hm
   have hc1:=hc0 hi1
   have wc:IntKind.i64.wrap ((c:Int)-1)=((c-1:Nat):Int):=by rw [wrap64 (by omega) (by omega)];omega
   have hb:(c.beq 0)=false:=by cases c with | zero=>omega | succ c=>rfl
   have q1:(((c-1:Nat):Int)<(c:Int))=True:=eq_true (by omega)
   have q2:(acc.length-2+2<=(flosL acc).length)=True:=eq_true (by rw [flosL_len];omega)
   have e1:(c-1)*2=acc.length-2:=by omega
   have e2:acc.length-2+1=acc.length-1:=by omega
   have f1:=hfa.get (i:=acc.length-2) (by omega)
   have f2:=hfa.get (i:=acc.length-1) (by omega)
   have g1:=flosL_get (xs:=acc) (i:=acc.length-2) (by omega)
   have g2:=flosL_get (xs:=acc) (i:=acc.length-1) (by omega)
   simp only [hm,if_false,wc,hb,q1,q2,Bool.and_false,Bool.not_false,gO,if_true,Int.natCast_nonneg,true_and,Int.toNat_natCast,e1,e2,g1,g2,bindO_ok,f1,f2,hfc,and_self,decide_true,put_pair]
   exact ih (k-1) (by omega) (i+1) c (setLast acc (clean1 ((fO cs).getD i none),clean1 ((fO cs).getD i none))) _ _ (by omega) (by rw [setLast_len];exact hacc) (by omega) (by omega) (setLast_fin hfa (by omega) hfc hfc)
 ·have hnil:(dupC (fO cs)).drop i=[]:=by rw [List.drop_eq_nil_iff,dupC,List.length_map,hl];omega
  rw [hnil,grpF]
  simp only [shut_eq,condO_dec,Int.ofNat_lt,hk,if_false]
  rw [hacc,Nat.mul_div_cancel_left _ (by omega)]
theorem pairsF_len:∀ (l:List (Option Nat)),(pairsF l).length=l.length / 2
 | []=>rfl
 | [_]=>by simp [pairsF]
 | a::b::l=>by rw [pairsF,List.length_cons,pairsF_len l];simp only [List.length_cons];omega
theorem pairsF_get:∀ (l:List (Option Nat)) (i:Nat),2*i+1<l.length->(pairsF l).getD i (none,none)=(l.getD (2*i) none,l.getD (2*i+1) none)
 | [],i,h=>by simp at h
 | [_],i,h=>by simp at h
 | a::b::l,0,h=>rfl
 | a::b::l,i+1,h=>by
  have:=pairsF_get l i (by simp only [List.length_cons] at h;omega)
  simp only [List.getD_eq_getElem?_getD] at this ⊢
  rw [pairsF,List.getElem?_cons_succ,this,show 2*(i+1)=2*i+1+1 by omega]
  simp
theorem run_131' {n a:Nat} {cs:List AV} (h:Flos (2*n) cs) (hn:n<=100000) (hf:FinL (fO cs)) (ha:1<=a) (ha2:a<=100000):
  (fsM mzH waysP (n+1) 12).call (List RLeaf) 131 [.ofB (.list n cs),.ofB (.int .i64 (a:Int)),.s (.o (.fn 132 [] [])),.s (.o (.fn 130 [] []))] [] (resK [true])=
  some [.fz ((grpF a 0 [] (pairsF (fO cs))).length / 2) (flosL (grpF a 0 [] (pairsF (fO cs))))]:=by
 rw [run_131]
 have hl:=h.len
 have hcl:=h.2.2
 refine loopC_rule (fun k (r:Int->Nat->List AV->Int->Int->Nat->List AV->Nat->List AV->Option (List RLeaf))=>∀ (i c:Nat) (acc:List (Option Nat)) (x5:Nat) (x6:List AV),i+k=n->acc.length=2*c->c<=i->(0<i->0<c)->FinL acc->
  r (a:Int) n cs (n:Int) (i:Int) x5 x6 c (flosL acc)=some [.fz ((grpF a i acc ((pairsF (fO cs)).drop i)).length / 2) (flosL (grpF a i acc ((pairsF (fO cs)).drop i)))]) ?_ (n+1) n (by omega) 0 0 [] _ _ (by omega) rfl (by omega) (by omega) (fun x hx=>by cases hx)
 intro k r ih i c acc x5 x6 hi hacc hci hc0 hfa
 by_cases hk:i<n
 ·have hlt:i<(pairsF (fO cs)).length:=by rw [pairsF_len,hl];omega
  rw [drop_cons (d:=(none,none)) hlt,grpF]
  have hx:=pairsF_get (fO cs) i (by omega)
  have hf1:=hf.get (i:=2*i) (by omega)
  have hf2:=hf.get (i:=2*i+1) (by omega)
  rw [hx]
  have ge1:=h.get (i:=2*i) (by omega)
  have ge2:=h.get (i:=2*i+1) (by omega)
  have wi:IntKind.i64.wrap ((i:Int)+1)=((i+1:Nat):Int):=by rw [wrap64]<;>omega
  have p1:(2*i+2<=cs.length)=True:=eq_true (by omega)
  have hcm:i*2=2*i:=by omega
  have p0:0<cs.length:=by omega
  have nz:((a:Int)≠0)=True:=eq_true (by omega)
  have nx:grpF a (i+1)=grpF a (i+1):=rfl
  simp only [shut_eq,condO_dec,guardO_dec,Int.ofNat_lt,hk,p0,if_true,Int.natCast_nonneg,true_and,and_true,Nat.mul_one,Int.toNat_natCast,hcm,p1,ge1,ge2,bindO_ok,nz,tmod_beq ha,wi]
  by_cases hm:i%a=0
  ·have g5:((c+1)*9<=549755813888)=True:=eq_true (by omega)
   simp only [hm,if_true,g5,put_pairN,←flosL_app]
   exact ih (k-1) (by omega) (i+1) (c+1) (acc++[(fO cs).getD (2*i) none,(fO cs).getD (2*i+1) none]) _ _ (by omega) (by simp [hacc];omega) (by omega) (by omega) (hfa.app (by intro y hy;simp only [List.mem_cons,List.not_mem_nil,or_false] at hy;rcases hy with rfl | rfl;exact hf1;exact hf2))
  ·have hi1:0<i:=Nat.pos_of_ne_zero fun h0=>by subst h0;simp at hm
   have hc1:=hc0 hi1
   have wc:IntKind.i64.wrap ((c:Int)-1)=((c-1:Nat):Int):=by rw [wrap64 (by omega) (by omega)];omega
   have hb:(c.beq 0)=false:=by cases c with | zero=>omega | succ c=>rfl
   have q1:(((c-1:Nat):Int)<(c:Int))=True:=eq_true (by omega)
   have q2:(acc.length-2+2<=(flosL acc).length)=True:=eq_true (by rw [flosL_len];omega)
   have e1:(c-1)*2=acc.length-2:=by omega
   have e2:acc.length-2+1=acc.length-1:=by omega
   have f1:=hfa.get (i:=acc.length-2) (by omega)
   have f2:=hfa.get (i:=acc.length-1) (by omega)
   have g1:=flosL_get (xs:=acc) (i:=acc.length-2) (by omega)
   have g2:=flosL_get (xs:=acc) (i:=acc.length-1) (by omega)
   simp only [hm,if_false,wc,hb,q1,q2,Bool.and_false,Bool.not_false,gO,if_true,Int.natCast_nonneg,true_and,Int.toNat_natCast,e1,e2,g1,g2,bindO_ok,f1,f2,hf1,hf2,and_self,decide_true,put_pair]
   exact ih (k-1) (by omega) (i+1) c (setLast acc ((fO cs).getD (2*i) none,(fO cs).getD (2*i+1) none)) _ _ (by omega) (by rw [setLast_len];exact hacc) (by omega) (by omega) (setLast_fin hfa (by omega) hf1 hf2)
 ·have hnil:(pairsF (fO cs)).drop i=[]:=by rw [List.drop_eq_nil_iff,pairsF_len,hl];omega
  rw [hnil,grpF]
  simp only [shut_eq,condO_dec,Int.ofNat_lt,hk,if_false]
  rw [hacc,Nat.mul_div_cancel_left _ (by omega)]
theorem run_128'' {n:Nat} {a:Int} {cs:List AV} (h:Flos n cs) (hn:n<=100000) (hf:FinL (fO cs)) (ha:1<=a) (ha2:a<=100000):
  (fsM mzH waysP (n+1) 12).call (List RLeaf) 128 [.ofB (.list n cs),.ofB (.int .i64 a),.s (.o (.fn 129 [] [])),.s (.o (.fn 130 [] []))] [] (resK [true])=
  some [.fz ((grpF a.toNat 0 [] (dupC (fO cs))).length / 2) (flosL (grpF a.toNat 0 [] (dupC (fO cs))))]:=by
 obtain ⟨A,rfl⟩:=Int.eq_ofNat_of_zero_le (show 0<=a by omega)
 exact run_128' h hn hf (by omega) (by omega)
theorem run_131'' {n:Nat} {a:Int} {cs:List AV} (h:Flos (2*n) cs) (hn:n<=100000) (hf:FinL (fO cs)) (ha:1<=a) (ha2:a<=100000):
  (fsM mzH waysP (n+1) 12).call (List RLeaf) 131 [.ofB (.list n cs),.ofB (.int .i64 a),.s (.o (.fn 132 [] [])),.s (.o (.fn 130 [] []))] [] (resK [true])=
  some [.fz ((grpF a.toNat 0 [] (pairsF (fO cs))).length / 2) (flosL (grpF a.toNat 0 [] (pairsF (fO cs))))]:=by
 obtain ⟨A,rfl⟩:=Int.eq_ofNat_of_zero_le (show 0<=a by omega)
 exact run_131' h hn hf (by omega) (by omega)
end Go.Abs
end
noncomputable section
namespace Go.Abs
open Go.Proofs Classical
def eGrpS:Ent:=fun args' R K=>match args' with
 | [.list n cs,.int .i64 a,.func 129 [] [],.func 130 [] []]=>gO (S_ (decide (Flos n cs/\n<=100000/\FinL (fO cs)/\1<=a/\a<=100000))) (K [.fz (S_ ((grpF a.toNat 0 [] (dupC (fO cs))).length / 2)) (S_ (flosL (grpF a.toNat 0 [] (dupC (fO cs)))))])
 | _=>none
theorem eGrpS_128:EntOk Tryz.prog 128 eGrpS:=by
 intro args' R K r ha h
 unfold eGrpS at h
 split at h
 ·rename_i n cs a
  obtain ⟨h1,h2⟩:=guardO_some h
  rw [shut_eq] at h1
  have h1':=of_decide_eq_true h1
  refine ⟨[.fz ((grpF a.toNat 0 [] (dupC (fO cs))).length / 2) (flosL (grpF a.toNat 0 [] (dupC (fO cs))))],fun _ _=>by simp only [eGrpS,shut_eq,decide_eq_true h1',gO],?_,con_of mzH_ok (W:=waysP) (N:=n+1) (k:=12) (ms:=[true]) ?_ ha ⟨flosL_plain,trivial⟩⟩
  ·intro l hl;rcases List.mem_cons.1 hl with rfl | hl
   ·exact (leaf_fz (flosL_plain))
   cases hl
  ·exact run_128'' h1'.1 h1'.2.1 h1'.2.2.1 h1'.2.2.2.1 h1'.2.2.2.2
 ·cases h
def eGrpP:Ent:=fun args' R K=>match args' with
 | [.list n cs,.int .i64 a,.func 132 [] [],.func 130 [] []]=>gO (S_ (decide (Flos (2*n) cs/\n<=100000/\FinL (fO cs)/\1<=a/\a<=100000))) (K [.fz (S_ ((grpF a.toNat 0 [] (pairsF (fO cs))).length / 2)) (S_ (flosL (grpF a.toNat 0 [] (pairsF (fO cs)))))])
 | _=>none
theorem eGrpP_131:EntOk Tryz.prog 131 eGrpP:=by
 intro args' R K r ha h
 unfold eGrpP at h
 split at h
 ·rename_i n cs a
  obtain ⟨h1,h2⟩:=guardO_some h
  rw [shut_eq] at h1
  have h1':=of_decide_eq_true h1
  refine ⟨[.fz ((grpF a.toNat 0 [] (pairsF (fO cs))).length / 2) (flosL (grpF a.toNat 0 [] (pairsF (fO cs))))],fun _ _=>by simp only [eGrpP,shut_eq,decide_eq_true h1',gO],?_,con_of mzH_ok (W:=waysP) (N:=n+1) (k:=12) (ms:=[true]) ?_ ha ⟨flosL_plain,trivial⟩⟩
  ·intro l hl;rcases List.mem_cons.1 hl with rfl | hl
   ·exact (leaf_fz (flosL_plain))
   cases hl
  ·exact run_131'' h1'.1 h1'.2.1 h1'.2.2.1 h1'.2.2.2.1 h1'.2.2.2.2
 ·cases h
def mzI:List (FuncId × Ent):=(128,eGrpS)::(131,eGrpP)::mzH
theorem mzI_ok:TabLOk Tryz.prog mzI:=⟨eGrpS_128,eGrpP_131,mzH_ok⟩
end Go.Abs
end
