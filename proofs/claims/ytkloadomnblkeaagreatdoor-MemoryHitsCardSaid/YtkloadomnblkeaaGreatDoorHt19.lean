/- Part 19 of the library of the proof: an abstract run of the program. -/
import Derived.Test.YtkloadomnblkeaaGreatDoorHt18
set_option linter.unusedVariables false
set_option linter.unusedSimpArgs false

noncomputable section
namespace Go.Abs
open Go.Proofs Classical Go.Abs.Fin
theorem Nt {a i:Nat} (ha:1<=a):(i+1+a-1) / a=(i+a-1) / a+if i%a=0 then 1 else 0:=by
 have h1:=Nat.div_add_mod i a
 have h2:=Nat.mod_lt i (show 0<a by omega)
 generalize i / a=q at h1
 generalize hr:i%a=r at h1 h2
 have e1:i+1+a-1=r+a*(q+1):=by rw [Nat.mul_add];omega
 rw [e1,Nat.add_mul_div_left _ _ (by omega),Nat.div_eq_of_lt h2]
 by_cases h0:r=0
 ·rw [if_pos h0]
  have e2:i+a-1=(a-1)+a*q:=by omega
  rw [e2,Nat.add_mul_div_left _ _ (by omega),Nat.div_eq_of_lt (by omega)]
  omega
 ·rw [if_neg h0]
  have e2:i+a-1=(r-1)+a*(q+1):=by rw [Nat.mul_add];omega
  rw [e2,Nat.add_mul_div_left _ _ (by omega),Nat.div_eq_of_lt (by omega)]
  omega
theorem tF {a:Nat} (ha:1<=a):∀ (l:List (Option Nat × Option Nat)) (i:Nat) (acc:List (Option Nat)),(cY a i acc l).length+2*((i+a-1) / a)=acc.length+2*((i+l.length+a-1) / a)
 | [],i,acc=>rfl
 | x::l,i,acc=>by
  rw [cY]
  have hs:=Nt (i:=i) ha
  rw [List.length_cons,show i+(l.length+1)+a-1=i+1+l.length+a-1 by omega]
  split
  ·rename_i h0
   have:=tF ha l (i+1) (acc++[x.1,x.2])
   rw [hs,if_pos h0] at this
   simp only [List.length_append,List.length_cons,List.length_nil] at this
   omega
  ·rename_i h0
   have:=tF ha l (i+1) (gY acc x)
   rw [hs,if_neg h0,gF] at this
   omega
theorem tG {a:Nat}:∀ (l:List (Option Nat × Option Nat)) (i:Nat) (acc:List (Option Nat)),cG acc->(i%a≠0->2<=acc.length)->(0<i->2<=acc.length)->(∀ x∈l,aJ x.1=true/\aJ x.2=true)->cG (cY a i acc l)
 | [],i,acc,h,_,_,_=>h
 | x::l,i,acc,h,h1,h2,h3=>by
  rw [cY]
  obtain ⟨f1,f2⟩:=h3 x List.mem_cons_self
  have V5:=fun y hy=>h3 y (List.mem_cons_of_mem _ hy)
  split
  ·refine tG l (i+1) _ (h.app ?_) (by simp) (by simp) V5
   intro y hy
   simp only [List.mem_cons,List.not_mem_nil,or_false] at hy
   rcases hy with rfl | rfl
   ·exact f1
   ·exact f2
  ·rename_i h0
   have:=h1 h0
   exact tG l (i+1) _ (oR h this f1 f2) (by rw [gF];omega) (by rw [gF];omega) V5
theorem P_ {xs:List (Option Nat)} (h:cG xs):∀ x∈fP xs,aJ x.1=true/\aJ x.2=true:=by
 intro x hx
 obtain ⟨y,hy,rfl⟩:=List.mem_map.1 hx
 exact ⟨bn (h y hy),bn (h y hy)⟩
theorem zN:∀ {l:List (Option Nat)},cG l->∀ x∈b_ l,aJ x.1=true/\aJ x.2=true
 | [],_,x,hx=>by cases hx
 | [_],_,x,hx=>by simp [b_] at hx
 | a::b::l,h,x,hx=>by
  rw [b_] at hx
  rcases List.mem_cons.1 hx with rfl | hx
  ·exact ⟨h _ (by simp),h _ (by simp)⟩
  ·exact zN (l:=l) (fun y hy=>h y (by simp [hy])) x hx
def an (Ls:List (List (Option Nat))):List AV:=Ls.map fun L=>AV.list (L.length / 2) (bU L)
def vb:Nat->List (Option Nat)->List (List (Option Nat))
 | 0,L=>[L]
 | k+1,L=>if L.length / 2>1 then L::vb k (cY 2 0 [] (b_ L)) else [L]
def aN (xs:List (Option Nat)) (b:Nat):List (List (Option Nat)):=if xs.length=0 then [] else vb xs.length (cY b 0 [] (fP xs))
theorem GM (L:List (Option Nat)):(cY 2 0 [] (b_ L)).length=2*((L.length / 2+1) / 2):=by
 have:=tF (a:=2) (by omega) (b_ L) 0 []
 rw [kb] at this
 simp only [List.length_nil] at this
 omega
theorem CW {xs:List (Option Nat)} {b:Nat} (hb:1<=b):(cY b 0 [] (fP xs)).length=2*((xs.length+b-1) / b):=by
 have:=tF (a:=b) hb (fP xs) 0 []
 have h0:(0+b-1) / b=0:=Nat.div_eq_of_lt (by omega)
 simp only [List.length_nil,fP,List.length_map,h0] at this
 simpa [fP] using this
theorem qc (n:Nat) (cs:List AV):ag (aX (cM (Go.Value.slice Option.none 0 0)).cells 1) 0 [AV.list n cs]=[AV.list n cs]:=rfl
theorem Uo {n:Nat} {b:Int} {cs:List AV} (h:bu n cs) (hn:n<=5000) (hf:cG (fO cs)) (hb:1<=b) (BY:b<=100000):
  (dA mzI aK (n+1) 12).call (List aa) 85 [.aT (.list n cs),.aT (.int .i64 b)] [] (bp [false])=some [.v (.list (aN (fO cs) b.toNat).length (an (aN (fO cs) b.toNat)))]:=by
 obtain ⟨B,rfl⟩:=Int.eq_ofNat_of_zero_le (show 0<=b by omega)
 rw [XT]
 have hl:=h.len
 by_cases n9:n=0
 ·have:((n:Int)==0)=true:=by subst n9;rfl
  unfold aN
  rw [hl,if_pos n9]
  simp only [ab,this,cO]
  rfl
 have hz:((n:Int)==0)=false:=beq_eq_false_iff_ne.2 (by omega)
 have g1:(bu n cs/\n<=100000/\cG (fO cs)/\(1:Int)<=(B:Int)/\(B:Int)<=100000)=True:=eq_true ⟨h,by omega,hf,hb,BY⟩
 have dg:=CW (xs:=fO cs) (b:=B) (by omega)
 have hff:=tG (a:=B) (fP (fO cs)) 0 [] (fun x hx=>by cases hx) (by simp) (by omega) (P_ hf)
 have hcb:(n+B-1) / B<=n:=by
  rw [Nat.div_le_iff_le_mul_add_pred (by omega)]
  have:n<=B*n:=Nat.le_mul_of_pos_left _ (by omega)
  omega
 rw [hl] at dg
 unfold aN
 rw [hl,if_neg n9]
 simp only [ab,hz,bH,aj,g1,if_true,Int.toNat_natCast,qc]
 generalize cY B 0 [] (fP (fO cs))=L0 at dg hff
 have p0:((0:Int)<=0/\(0:Int)<((1:Nat):Int))=True:=eq_true (by omega)
 have p1:(!(false&&Nat.beq 1 0))=true:=rfl
 simp only [p1,gO]
 rw [if_pos ⟨by omega,by omega⟩]
 clear g1 hz hb BY
 refine au (fun k (r:Nat->List AV->Nat->List AV->Nat->List AV->Option (List aa))=>∀ (L:List (Option Nat)) (pre:List (List (Option Nat))) (m:Nat) (x2:Nat) (x3:List AV),L.length=2*m->m<=k->cG L->m+pre.length<=5000->
  r (L.length / 2) (bU L) x2 x3 (pre.length+1) (an (pre++[L]))=some [.v (.list (pre++vb k L).length (an (pre++vb k L)))]) ?_ (n+1) n (by omega) L0 [] ((n+B-1) / B) _ _ dg hcb hff (by simp;omega)
 intro k r ih L pre m x2 x3 hL hmk hfL Qa
 have MN:L.length / 2=m:=by omega
 by_cases h1:m>1
 ·obtain ⟨k,rfl⟩:∃ k',k=k' + 1:=⟨k-1,by omega⟩
  have hFl:bu (2*m) (bU L):=by rw [←hL];exact PH (by omega)
  have g1:(bu (2*m) (bU L)/\m<=100000/\cG L/\(1:Int)<=2/\(2:Int)<=100000)=True:=eq_true ⟨hFl,by omega,hfL,by omega,by omega⟩
  have g2:((pre.length+1+1)*25<=549755813888)=True:=eq_true (by omega)
  have g3:((m:Int)>1)=True:=eq_true (by omega)
  rw [vb,MN,if_pos h1]
  simp only [ab,ae,aj,g3,zE,g1,g2,if_true,qc]
  have hh:=GM L
  rw [MN] at hh
  have:=ih k (by omega) (cY 2 0 [] (b_ L)) (pre++[L]) ((m+1) / 2) x2 x3 hh (by omega) (tG (b_ L) 0 [] (fun x hx=>by cases hx) (by simp) (by omega) (zN hfL)) (by simp;omega)
  simpa [an] using this
 ·have g3:((m:Int)>1)=False:=eq_false (by omega)
  have e:vb k L=[L]:=by
   cases k with
   | zero=>rfl
   | succ k=>rw [vb,if_neg (by omega)]
  rw [e,MN]
  simp only [ab,ae,g3,if_false]
  simp
theorem zO (Ls:List (List (Option Nat))):∀ c∈an Ls,Cell c:=by
 intro c hc
 obtain ⟨L,_,rfl⟩:=List.mem_map.1 hc
 exact .list _ _ fun x hx=>(fF x hx).cell
theorem Qb {n:Nat} (Ls:List (List (Option Nat))):gT (.v (.list n (an Ls))):=⟨(Cell.list n _ (zO Ls)).pure,(fun _ _ e=>by cases e;exact zO Ls),(fun _ e=>by cases e)⟩
end Go.Abs
end
noncomputable section
namespace Go.Abs
open Go.Proofs Classical
def yi:fr:=fun ai R K=>match ai with
 | [.list n cs,.int .i64 b]=>gO (S_ (decide (bu n cs/\n<=5000/\cG (fO cs)/\1<=b/\b<=100000))) (K [.v (.list (S_ ((aN (fO cs) b.toNat).length)) (S_ (an (aN (fO cs) b.toNat))))])
 | _=>none
theorem JX:bG Tryz.prog 85 yi:=by
 intro ai R K r ha h
 unfold yi at h
 split at h
 ·rename_i n cs b
  obtain ⟨h1,h2⟩:=aD h
  rw [ab] at h1
  have bM:=of_decide_eq_true h1
  refine ⟨[.v (.list ((aN (fO cs) b.toNat).length) (an (aN (fO cs) b.toNat)))],fun _ _=>by simp only [yi,ab,decide_eq_true bM,gO],?_,bf Q_ (W:=aK) (N:=n+1) (k:=12) (ms:=[false]) ?_ ha trivial⟩
  ·intro l hl;rcases List.mem_cons.1 hl with rfl | hl
   ·exact (Qb _)
   cases hl
  ·exact Uo bM.1 bM.2.1 bM.2.2.1 bM.2.2.2.1 bM.2.2.2.2
 ·cases h
def mzJ:List (FuncId × fr):=(85,yi)::mzI
theorem Ra:eZ Tryz.prog mzJ:=⟨JX,Q_⟩
end Go.Abs
end
