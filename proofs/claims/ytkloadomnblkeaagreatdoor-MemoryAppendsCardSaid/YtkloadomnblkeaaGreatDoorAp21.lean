/- Part 21 of the library of the proof: an abstract run of the program. -/
import Derived.Test.YtkloadomnblkeaaGreatDoorAp20
set_option linter.unusedVariables false
set_option linter.unusedSimpArgs false

noncomputable section
namespace Go.Abs
open Go.Proofs Classical Go.Abs.Fin
theorem ceil_step {a i:Nat} (ha:1<=a):(i+1+a-1) / a=(i+a-1) / a+if i%a=0 then 1 else 0:=by
 have h1:=Nat.div_add_mod i a
 have h2:=Nat.mod_lt i (show 0<a by omega)
 generalize i / a=q at h1
 generalize hr:i%a=r at h1 h2
 have e1:i+1+a-1=r+a*(q+1):=by rw [Nat.mul_add];omega
 rw [e1,Nat.add_mul_div_left _ _ (by omega),Nat.div_eq_of_lt h2]
 by_cases h0:r=0
 ·rw [if_pos h0]
  have e2:i+a-1=(a-1)+a*q:=by omega
  rw [e2,Nat.add_mul_div_left _ _ (by omega),Nat.div_eq_of_lt (by omega)]
  omega
 ·rw [if_neg h0]
  have e2:i+a-1=(r-1)+a*(q+1):=by rw [Nat.mul_add];omega
  rw [e2,Nat.add_mul_div_left _ _ (by omega),Nat.div_eq_of_lt (by omega)]
  omega
theorem grpF_len {a:Nat} (ha:1<=a):∀ (l:List (Option Nat × Option Nat)) (i:Nat) (acc:List (Option Nat)),(grpF a i acc l).length+2*((i+a-1) / a)=acc.length+2*((i+l.length+a-1) / a)
 | [],i,acc=>rfl
 | x::l,i,acc=>by
  rw [grpF]
  have hs:=ceil_step (i:=i) ha
  rw [List.length_cons,show i+(l.length+1)+a-1=i+1+l.length+a-1 by omega]
  split
  ·rename_i h0
   have:=grpF_len ha l (i+1) (acc++[x.1,x.2])
   rw [hs,if_pos h0] at this
   simp only [List.length_append,List.length_cons,List.length_nil] at this
   omega
  ·rename_i h0
   have:=grpF_len ha l (i+1) (setLast acc x)
   rw [hs,if_neg h0,setLast_len] at this
   omega
theorem grpF_fin {a:Nat}:∀ (l:List (Option Nat × Option Nat)) (i:Nat) (acc:List (Option Nat)),FinL acc->(i%a≠0->2<=acc.length)->(0<i->2<=acc.length)->(∀ x∈l,finB x.1=true/\finB x.2=true)->FinL (grpF a i acc l)
 | [],i,acc,h,_,_,_=>h
 | x::l,i,acc,h,h1,h2,h3=>by
  rw [grpF]
  obtain ⟨f1,f2⟩:=h3 x List.mem_cons_self
  have h3':=fun y hy=>h3 y (List.mem_cons_of_mem _ hy)
  split
  ·refine grpF_fin l (i+1) _ (h.app ?_) (by simp) (by simp) h3'
   intro y hy
   simp only [List.mem_cons,List.not_mem_nil,or_false] at hy
   rcases hy with rfl | rfl
   ·exact f1
   ·exact f2
  ·rename_i h0
   have:=h1 h0
   exact grpF_fin l (i+1) _ (setLast_fin h this f1 f2) (by rw [setLast_len];omega) (by rw [setLast_len];omega) h3'
theorem dupC_fin {xs:List (Option Nat)} (h:FinL xs):∀ x∈dupC xs,finB x.1=true/\finB x.2=true:=by
 intro x hx
 obtain ⟨y,hy,rfl⟩:=List.mem_map.1 hx
 exact ⟨finB_clean (h y hy),finB_clean (h y hy)⟩
theorem pairsF_fin:∀ {l:List (Option Nat)},FinL l->∀ x∈pairsF l,finB x.1=true/\finB x.2=true
 | [],_,x,hx=>by cases hx
 | [_],_,x,hx=>by simp [pairsF] at hx
 | a::b::l,h,x,hx=>by
  rw [pairsF] at hx
  rcases List.mem_cons.1 hx with rfl | hx
  ·exact ⟨h _ (by simp),h _ (by simp)⟩
  ·exact pairsF_fin (l:=l) (fun y hy=>h y (by simp [hy])) x hx
def lvCells (Ls:List (List (Option Nat))):List AV:=Ls.map fun L=>AV.list (L.length / 2) (flosL L)
def levF:Nat->List (Option Nat)->List (List (Option Nat))
 | 0,L=>[L]
 | k+1,L=>if L.length / 2>1 then L::levF k (grpF 2 0 [] (pairsF L)) else [L]
def levelsF (xs:List (Option Nat)) (b:Nat):List (List (Option Nat)):=if xs.length=0 then [] else levF xs.length (grpF b 0 [] (dupC xs))
theorem half_len (L:List (Option Nat)):(grpF 2 0 [] (pairsF L)).length=2*((L.length / 2+1) / 2):=by
 have:=grpF_len (a:=2) (by omega) (pairsF L) 0 []
 rw [pairsF_len] at this
 simp only [List.length_nil] at this
 omega
theorem first_len {xs:List (Option Nat)} {b:Nat} (hb:1<=b):(grpF b 0 [] (dupC xs)).length=2*((xs.length+b-1) / b):=by
 have:=grpF_len (a:=b) hb (dupC xs) 0 []
 have h0:(0+b-1) / b=0:=Nat.div_eq_of_lt (by omega)
 simp only [List.length_nil,dupC,List.length_map,h0] at this
 simpa [dupC] using this
theorem put_lev (n:Nat) (cs:List AV):putCells (zrow (ofV (Go.Value.slice Option.none 0 0)).cells 1) 0 [AV.list n cs]=[AV.list n cs]:=rfl
theorem run_85' {n:Nat} {b:Int} {cs:List AV} (h:Flos n cs) (hn:n<=5000) (hf:FinL (fO cs)) (hb:1<=b) (hb2:b<=100000):
  (fsM mzI waysP (n+1) 12).call (List RLeaf) 85 [.ofB (.list n cs),.ofB (.int .i64 b)] [] (resK [false])=some [.v (.list (levelsF (fO cs) b.toNat).length (lvCells (levelsF (fO cs) b.toNat)))]:=by
 obtain ⟨B,rfl⟩:=Int.eq_ofNat_of_zero_le (show 0<=b by omega)
 rw [run_85]
 have hl:=h.len
 by_cases hn0:n=0
 ·have:((n:Int)==0)=true:=by subst hn0;rfl
  unfold levelsF
  rw [hl,if_pos hn0]
  simp only [shut_eq,this,cO]
  rfl
 have hz:((n:Int)==0)=false:=beq_eq_false_iff_ne.2 (by omega)
 have g1:(Flos n cs/\n<=100000/\FinL (fO cs)/\(1:Int)<=(B:Int)/\(B:Int)<=100000)=True:=eq_true ⟨h,by omega,hf,hb,hb2⟩
 have hfl:=first_len (xs:=fO cs) (b:=B) (by omega)
 have hff:=grpF_fin (a:=B) (dupC (fO cs)) 0 [] (fun x hx=>by cases hx) (by simp) (by omega) (dupC_fin hf)
 have hcb:(n+B-1) / B<=n:=by
  rw [Nat.div_le_iff_le_mul_add_pred (by omega)]
  have:n<=B*n:=Nat.le_mul_of_pos_left _ (by omega)
  omega
 rw [hl] at hfl
 unfold levelsF
 rw [hl,if_neg hn0]
 simp only [shut_eq,hz,condO_fx,guardO_dec,g1,if_true,Int.toNat_natCast,put_lev]
 generalize grpF B 0 [] (dupC (fO cs))=L0 at hfl hff
 have p0:((0:Int)<=0/\(0:Int)<((1:Nat):Int))=True:=eq_true (by omega)
 have p1:(!(false&&Nat.beq 1 0))=true:=rfl
 simp only [p1,gO]
 rw [if_pos ⟨by omega,by omega⟩]
 clear g1 hz hb hb2
 refine loopC_rule (fun k (r:Nat->List AV->Nat->List AV->Nat->List AV->Option (List RLeaf))=>∀ (L:List (Option Nat)) (pre:List (List (Option Nat))) (m:Nat) (x2:Nat) (x3:List AV),L.length=2*m->m<=k->FinL L->m+pre.length<=5000->
  r (L.length / 2) (flosL L) x2 x3 (pre.length+1) (lvCells (pre++[L]))=some [.v (.list (pre++levF k L).length (lvCells (pre++levF k L)))]) ?_ (n+1) n (by omega) L0 [] ((n+B-1) / B) _ _ hfl hcb hff (by simp;omega)
 intro k r ih L pre m x2 x3 hL hmk hfL hpm
 have hm2:L.length / 2=m:=by omega
 by_cases h1:m>1
 ·obtain ⟨k,rfl⟩:∃ k',k=k' + 1:=⟨k-1,by omega⟩
  have hFl:Flos (2*m) (flosL L):=by rw [←hL];exact Flos_L (by omega)
  have g1:(Flos (2*m) (flosL L)/\m<=100000/\FinL L/\(1:Int)<=2/\(2:Int)<=100000)=True:=eq_true ⟨hFl,by omega,hfL,by omega,by omega⟩
  have g2:((pre.length+1+1)*25<=549755813888)=True:=eq_true (by omega)
  have g3:((m:Int)>1)=True:=eq_true (by omega)
  rw [levF,hm2,if_pos h1]
  simp only [shut_eq,condO_dec,guardO_dec,g3,flosOf_L,g1,g2,if_true,put_lev]
  have hh:=half_len L
  rw [hm2] at hh
  have:=ih k (by omega) (grpF 2 0 [] (pairsF L)) (pre++[L]) ((m+1) / 2) x2 x3 hh (by omega) (grpF_fin (pairsF L) 0 [] (fun x hx=>by cases hx) (by simp) (by omega) (pairsF_fin hfL)) (by simp;omega)
  simpa [lvCells] using this
 ·have g3:((m:Int)>1)=False:=eq_false (by omega)
  have e:levF k L=[L]:=by
   cases k with
   | zero=>rfl
   | succ k=>rw [levF,if_neg (by omega)]
  rw [e,hm2]
  simp only [shut_eq,condO_dec,g3,if_false]
  simp
theorem lv_cells (Ls:List (List (Option Nat))):∀ c∈lvCells Ls,Cell c:=by
 intro c hc
 obtain ⟨L,_,rfl⟩:=List.mem_map.1 hc
 exact .list _ _ fun x hx=>(flosL_plain x hx).cell
theorem leaf_lvs {n:Nat} (Ls:List (List (Option Nat))):LeafOk (.v (.list n (lvCells Ls))):=⟨(Cell.list n _ (lv_cells Ls)).pure,(fun _ _ e=>by cases e;exact lv_cells Ls),(fun _ e=>by cases e)⟩
end Go.Abs
end
noncomputable section
namespace Go.Abs
open Go.Proofs Classical
def eLevels:Ent:=fun args' R K=>match args' with
 | [.list n cs,.int .i64 b]=>gO (S_ (decide (Flos n cs/\n<=5000/\FinL (fO cs)/\1<=b/\b<=100000))) (K [.v (.list (S_ ((levelsF (fO cs) b.toNat).length)) (S_ (lvCells (levelsF (fO cs) b.toNat))))])
 | _=>none
theorem eLevels_85:EntOk Tryz.prog 85 eLevels:=by
 intro args' R K r ha h
 unfold eLevels at h
 split at h
 ·rename_i n cs b
  obtain ⟨h1,h2⟩:=guardO_some h
  rw [shut_eq] at h1
  have h1':=of_decide_eq_true h1
  refine ⟨[.v (.list ((levelsF (fO cs) b.toNat).length) (lvCells (levelsF (fO cs) b.toNat)))],fun _ _=>by simp only [eLevels,shut_eq,decide_eq_true h1',gO],?_,con_of mzI_ok (W:=waysP) (N:=n+1) (k:=12) (ms:=[false]) ?_ ha trivial⟩
  ·intro l hl;rcases List.mem_cons.1 hl with rfl | hl
   ·exact (leaf_lvs _)
   cases hl
  ·exact run_85' h1'.1 h1'.2.1 h1'.2.2.1 h1'.2.2.2.1 h1'.2.2.2.2
 ·cases h
def mzJ:List (FuncId × Ent):=(85,eLevels)::mzI
theorem mzJ_ok:TabLOk Tryz.prog mzJ:=⟨eLevels_85,mzI_ok⟩
end Go.Abs
end
