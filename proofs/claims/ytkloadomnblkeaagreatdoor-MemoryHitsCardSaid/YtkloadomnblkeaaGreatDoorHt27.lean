/- Part 27 of the library of the proof: an abstract run of the program. -/
import Derived.Test.YtkloadomnblkeaaGreatDoorHt13
import Derived.Test.YtkloadomnblkeaaGreatDoorHt25
import Derived.Test.YtkloadomnblkeaaGreatDoorHt26
set_option linter.unusedVariables false
set_option linter.unusedSimpArgs false

noncomputable section
namespace Go.Abs
open Go.Proofs Classical Go.Abs.Fin
def l_ (n:Nat) (xs:List (Option Nat)) (b:Int):Int:=if aY n xs=0 then (if b<1\/b>256 then 3 else 0) else aY n xs
def al (n:Nat) (xs:List (Option Nat)) (b:Int):Int × List (List (Option Nat)):=if l_ n xs b=0 then (b,aN xs b.toNat) else (0,[])
theorem Uq {n:Nat} {cs:List AV} {b:Int} (h:bu n cs):(dA H8 cQ 1 12).call (List aa) 20 [.aT (.list n cs),.aT (.int .i64 b)] [] (bp [false,false])=
  some [.v (.agg [.int .i64 (al n (fO cs) b).1,.list (al n (fO cs) b).2.length (an (al n (fO cs) b).2)]),.v (.int .i64 (l_ n (fO cs) b))]:=by
 rw [XV]
 simp only [ab,aj,h,if_true,PF,Gu,mG,cr]
 rw [show (if aY n (fO cs)=0 then (if b<1\/b>256 then (3:Int) else 0) else aY n (fO cs))=l_ n (fO cs) b from rfl]
 by_cases h0:l_ n (fO cs) b=0
 ·have hs:aY n (fO cs)=0/\1<=b/\b<=256:=by
   unfold l_ at h0
   split at h0
   ·rename_i h1
    refine ⟨h1,?_⟩
    split at h0<;>omega
   ·rename_i h1;exact absurd h0 h1
  obtain ⟨hn,hf⟩:=gW hs.1
  have g:(n<=5000/\cG (fO cs)/\1<=b/\b<=100000)=True:=eq_true ⟨by omega,hf,by omega,by omega⟩
  have e:al n (fO cs) b=(b,aN (fO cs) b.toNat):=if_pos h0
  rw [if_pos h0,e,h0]
  simp only [g,and_self,if_true]
 ·have e:al n (fO cs) b=(0,[]):=if_neg h0
  rw [if_neg h0,e]
  rfl
def qd (m:Nat) (ls:List AV):Prop:=m<=5000/\ls.length=m/\∀ c∈ls,∃ k cs,c=AV.list k cs/\bu (2*k) cs/\k<=5000
theorem qd.get {m:Nat} {ls:List AV} (h:qd m ls) {i:Nat} (hi:i<m):∃ k cs,ls.getD i .top=.list k cs/\bu (2*k) cs/\k<=5000:=by
 have hl:=h.2.1
 have:ls.getD i .top∈ls:=by
  rw [List.getD_eq_getElem?_getD,List.getElem?_eq_getElem (by omega)];exact List.getElem_mem _
 exact h.2.2 _ this
theorem cJ {k:Nat} {cs:List AV}:cZ (.list k cs)=some (k,cs):=rfl
theorem take_one {xs:List AV} {i:Nat} {x:AV} (h:i<xs.length) (hx:xs.getD i .top=x):xs.take i++[x]=xs.take (i+1):=by
 rw [List.take_add_one,List.getElem?_eq_getElem h,←hx,List.getD_eq_getElem?_getD,List.getElem?_eq_getElem h];rfl
theorem Ur {m:Nat} {ls:List AV} {b:Int} (h:qd m ls):(dA H8 cQ (m+1) 12).call (List aa) 26 [.s (.agg [.b (.int .i64 b),.b (.list m ls)])] [] (bp [false])=
  some [.v (.agg [.int .i64 b,.list m ls])]:=by
 rw [XW]
 have hl:=h.2.1
 have hm:=h.1
 refine (au (fun k (r:(Nat->List AV->Int->Int->Int->Nat->List AV->Nat->List AV->Int->Nat->List AV->Int->Nat->List AV->Option (List aa)) × PUnit.{1})=>∀ (i:Nat) (x4:Int) (x5:Nat) (x6:List AV) (x7:Nat) (x8:List AV) (x9:Int) (H7:Nat) (Np:List AV),i+k=m->
  r.1 m ls (m:Int) (i:Int) x4 x5 x6 x7 x8 x9 H7 Np b i (ls.take i)=some [.v (.agg [.int .i64 b,.list m ls])]) ?_ (m+1) m (by omega)) 0 _ _ _ _ _ _ _ _ (by omega)
 intro k r ih i x4 x5 x6 x7 x8 x9 H7 Np hi
 by_cases hk:i<m
 ·obtain ⟨k2,cs,e1,e2,e3⟩:=h.get hk
  have p0:0<ls.length:=by omega
  have wi:IntKind.i64.wrap ((i:Int)+1)=((i+1:Nat):Int):=by rw [wrap64]<;>omega
  have g1:(bu (2*k2) cs/\k2<=100000)=True:=eq_true ⟨e2,by omega⟩
  have g5:((i+1)*25<=549755813888)=True:=eq_true (by omega)
  simp only [ab,ae,aj,Int.ofNat_lt,hk,p0,if_true,Int.natCast_nonneg,true_and,and_true,Int.toNat_natCast,Nat.mul_one,e1,cJ,ak,g1,g5,wi,qc]
  rw [take_one (by omega) e1]
  exact ih (k-1) (by omega) (i+1) _ _ _ _ _ _ _ _ (by omega)
 ·have:i=m:=by omega
  subst this
  simp only [ab,ae,Int.ofNat_lt,hk,if_false]
  rw [List.take_of_length_le (by omega)]
theorem Us {m N:Nat} {ls:List AV} {b:Int} (h:qd m ls) (hN:m+5001<N):(dA H8 cQ N 12).call (List aa) 28 [.s (.agg [.b (.int .i64 b),.b (.list m ls)])] [] (bp [false])=
  some [.v (.agg [.int .i64 b,.list m ls])]:=by
 rw [XX]
 have hl:=h.2.1
 have hm:=h.1
 refine (au (fun k (r:(Nat->List AV->Int->Int->Int->Nat->List AV->Nat->List AV->Int->Nat->List AV->Int->Nat->List AV->Option (List aa)) × PUnit.{1})=>∀ (i:Nat) (x4:Int) (x5:Nat) (x6:List AV) (x7:Nat) (x8:List AV) (x9:Int) (H7:Nat) (Np:List AV),i+k=m->
  r.1 m ls (m:Int) (i:Int) x4 x5 x6 x7 x8 x9 H7 Np b i (ls.take i)=some [.v (.agg [.int .i64 b,.list m ls])]) ?_ N m (by omega)) 0 _ _ _ _ _ _ _ _ (by omega)
 intro k r ih i x4 x5 x6 x7 x8 x9 H7 Np hi
 by_cases hk:i<m
 ·obtain ⟨n,cs,e1,e2,e3⟩:=h.get hk
  have p0:0<ls.length:=by omega
  have wi:IntKind.i64.wrap ((i:Int)+1)=((i+1:Nat):Int):=by rw [wrap64]<;>omega
  have g5:((i+1)*25<=549755813888)=True:=eq_true (by omega)
  simp only [ab,ae,aj,Int.ofNat_lt,hk,p0,if_true,Int.natCast_nonneg,true_and,and_true,Int.toNat_natCast,Nat.mul_one,e1,cJ,ak,g5,wi,qc]
  have V6:=e2.len
  have xW:=e2.2.2
  have te:bU (fO cs)=cs:=e2.2.1.symm
  refine au (fun k2 (r2:Nat->List AV->Int->Int->Nat->List AV->Int->Int->Int->Nat->List AV->Nat->List AV->Int->Nat->List AV->Int->Nat->List AV->Nat->List AV->Option (List aa))=>∀ (j:Nat),j+k2=n->
   r2 m ls (m:Int) (i:Int) n cs (n:Int) (j:Int) x4 x5 x6 x7 x8 x9 H7 Np b i (ls.take i) j (bU ((fO cs).take (2*j)))=some [.v (.agg [.int .i64 b,.list m ls])]) ?_ N n (by omega) 0 (by omega)
  intro k2 r2 tr j hj
  by_cases iC:j<n
  ·have GJ:=e2.get (i:=2*j) (by omega)
   have GK:=e2.get (i:=2*j+1) (by omega)
   have wj:IntKind.i64.wrap ((j:Int)+1)=((j+1:Nat):Int):=by rw [wrap64]<;>omega
   have q0:0<cs.length:=by omega
   have q1:(2*j+2<=cs.length)=True:=eq_true (by omega)
   have GL:j*2=2*j:=by omega
   have g6:((j+1)*9<=549755813888)=True:=eq_true (by omega)
   simp only [ab,ae,aj,Int.ofNat_lt,iC,q0,if_true,Int.natCast_nonneg,true_and,and_true,Int.toNat_natCast,GL,q1,GJ,GK,ak,wj,g6,mI,←mE]
   rw [←GN (by omega)]
   exact tr (k2-1) (by omega) (j+1) (by omega)
  ·have:j=n:=by omega
   subst this
   simp only [ab,ae,aj,Int.ofNat_lt,iC,if_false,g5,if_true,qc,wi]
   rw [show (fO cs).take (2*j)=fO cs from List.take_of_length_le (by omega),te,take_one (by omega) e1]
   exact ih (k-1) (by omega) (i+1) _ _ _ _ _ _ _ _ (by omega)
 ·have:i=m:=by omega
  subst this
  simp only [ab,ae,Int.ofNat_lt,hk,if_false]
  rw [List.take_of_length_le (by omega)]
end Go.Abs
end
noncomputable section
namespace Go.Abs
open Go.Proofs Classical Go.Abs.Fin
theorem P3 {n:Nat} {cs:List AV} (h:bu n cs) {i m:Nat} (hm:i+m<=n):bu m ((cs.drop i).take m)/\fO ((cs.drop i).take m)=((fO cs).drop i).take m:=by
 have e:fO ((cs.drop i).take m)=((fO cs).drop i).take m:=by simp [fO,List.map_take,List.map_drop]
 refine ⟨⟨by have:=h.1;omega,?_,?_⟩,e⟩
 ·rw [e]
  have:=h.2.1
  conv=>lhs;rw [this]
  simp [List.map_take,List.map_drop]
 ·have:=h.2.2
  simp;omega
end Go.Abs
end
noncomputable section
namespace Go.Abs
open Go.Proofs Classical Go.Abs.Fin
def oT (xs:List (Option Nat)) (w p:Nat):List (Option Nat):=(xs.drop p).take (min (p+w) xs.length-p)
def kd (xs:List (Option Nat)) (w:Nat):Nat->Nat->List (Option Nat)
 | 0,_=>[]
 | k+1,p=>if p<xs.length then [gK .lt ((oT xs w p).getD 0 none) (oT xs w p),gK .gt ((oT xs w p).getD 0 none) (oT xs w p)]++kd xs w k (p+w) else []
def iJ (xs:List (Option Nat)):Nat->Nat->List (List (Option Nat))
 | 0,w=>[kd xs w xs.length 0]
 | k+1,w=>if (kd xs w xs.length 0).length=2 then [kd xs w xs.length 0] else kd xs w xs.length 0::iJ xs k (2*w)
def eG (xs:List (Option Nat)) (b:Nat):List (List (Option Nat)):=if xs.length=0 then [] else iJ xs 13 b
theorem Qc {xs:List (Option Nat)} {w:Nat} (h:xs.length<=w) (h0:0<xs.length):(kd xs w xs.length 0).length=2:=by
 cases hk:xs.length with
 | zero=>omega
 | succ k=>
  rw [kd,if_pos h0]
  cases k with
  | zero=>rfl
  | succ k=>rw [kd,if_neg (by omega)];rfl
theorem Ut {n N:Nat} {cs:List AV} {b:Int} (h:bu n cs) (hn:n<=5000) (hb:1<=b) (BY:b<=10000) (hN:n+20<N):
  (dA H8 cQ N 12).call (List aa) 24 [.aT (.list n cs),.aT (.int .i64 b)] [] (bp [false])=
  some [.v (.agg [.int .i64 b,.list (eG (fO cs) b.toNat).length (an (eG (fO cs) b.toNat))])]:=by
 obtain ⟨B,rfl⟩:=Int.eq_ofNat_of_zero_le (show 0<=b by omega)
 rw [XY]
 have hl:=h.len
 have xW:=h.2.2
 by_cases n9:n=0
 ·refine (au (fun k (r:(Nat->List AV->Int->Nat->List AV->Int->Nat->List AV->Int->Nat->List AV->Option (List aa)) × PUnit.{1})=>r.1 n cs (B:Int) 0 [] 0 0 [] (B:Int) 0 []=some [.v (.agg [.int .i64 (B:Int),.list (eG (fO cs) B).length (an (eG (fO cs) B))])]) ?_ N 0 (by omega))
  intro k r ih
  have g:((n:Int)>0)=False:=eq_false (by omega)
  have e:eG (fO cs) B=[]:=if_pos (by omega)
  simp only [ab,ae,g,if_false,e]
  rfl
 have e:eG (fO cs) B=iJ (fO cs) 13 B:=if_neg (by omega)
 rw [Int.toNat_natCast,e]
 refine (au (fun k (r:(Nat->List AV->Int->Nat->List AV->Int->Nat->List AV->Int->Nat->List AV->Option (List aa)) × PUnit.{1})=>∀ (w:Nat) (pre:List (List (Option Nat))) (x3:Nat) (x4:List AV) (x5:Int) (x6:Nat) (x7:List AV),1<=w->w<=10000->n<=w*2 ^ k->pre.length+k<=13->
  r.1 n cs (w:Int) x3 x4 x5 x6 x7 (B:Int) pre.length (an pre)=some [.v (.agg [.int .i64 (B:Int),.list (pre++iJ (fO cs) k w).length (an (pre++iJ (fO cs) k w))])]) ?_ N 13 (by omega)) B [] _ _ _ _ _ (by omega) (by omega) (by omega) (by simp)
 intro k r ih w pre x3 x4 x5 x6 x7 hw1 hw2 hkw hpk
 have g0:((n:Int)>0)=True:=eq_true (by omega)
 simp only [ab,ae,g0,if_true]
 have fin:∀ L:List (Option Nat),L=kd (fO cs) w n 0->L.length≠2->∃ k',k=k' + 1/\w<n/\iJ (fO cs) k w=L::iJ (fO cs) k' (2*w):=by
  intro L hL h2
  have hwn:w<n:=by
   rcases Nat.lt_or_ge w n with h3 | h3
   ·exact h3
   ·exact absurd (by rw [hL,←hl];exact Qc (by omega) (by omega)) h2
  cases k with
  | zero=>simp at hkw;omega
  | succ k=>exact ⟨k,rfl,hwn,by rw [iJ,hl,←hL,if_neg h2]⟩
 have aeS:∀ L:List (Option Nat),L=kd (fO cs) w n 0->L.length=2->iJ (fO cs) k w=[L]:=by
  intro L hL h2
  cases k with
  | zero=>rw [iJ,hl,←hL]
  | succ k=>rw [iJ,hl,←hL,if_pos h2]
 refine au (fun k2 (r2:Nat->List AV->Int->Int->Nat->List AV->Int->Nat->List AV->Int->Nat->List AV->Nat->List AV->Option (List aa))=>∀ (p c:Nat) (acc:List (Option Nat)),n<=p+k2->p<=n+w->acc.length=2*c->c<=p->acc++kd (fO cs) w k2 p=kd (fO cs) w n 0->
  r2 n cs (w:Int) (p:Int) x3 x4 x5 x6 x7 (B:Int) pre.length (an pre) c (bU acc)=some [.v (.agg [.int .i64 (B:Int),.list (pre++iJ (fO cs) k w).length (an (pre++iJ (fO cs) k w))])]) ?_ N n (by omega) 0 0 [] (by omega) (by omega) rfl (by omega) rfl
 intro k2 r2 tr p c acc ahO hpn hac hcp aG
 by_cases hp:p<n
 ·obtain ⟨k2,rfl⟩:∃ k',k2=k' + 1:=⟨k2-1,by omega⟩
  rw [kd,if_pos (by omega)] at aG
  have wp:IntKind.i64.wrap ((p:Int)+(w:Int))=((p+w:Nat):Int):=by rw [wrap64]<;>omega
  have em:(if (n:Int)<((p+w:Nat):Int) then (n:Int) else ((p+w:Nat):Int))=((min (p+w) n:Nat):Int):=by split<;>omega
  have ab2:=P3 h (i:=p) (m:=min (p+w) n-p) (by omega)
  have aeT:fO ((cs.drop p).take (min (p+w) n-p))=oT (fO cs) w p:=by rw [ab2.2,oT,hl]
  simp only [ab,ae,aj,Int.ofNat_lt,hp,if_true]
  simp only [wp,em,Int.toNat_natCast,Nat.mul_one,xW,ab2.1,aeT,mI,←mE,Int.natCast_nonneg,true_and,if_true]
  rw [if_pos ⟨by omega,by omega⟩,if_pos (by omega),if_pos (by omega)]
  exact tr k2 (by omega) (p+w) (c+1) _ (by omega) (by omega) (by simp [hac];omega) (by omega) (by rw [←aG,List.append_assoc])
 ·have e0:kd (fO cs) w k2 p=[]:=by
   cases k2 with
   | zero=>rfl
   | succ k2=>rw [kd,if_neg (by omega)]
  rw [e0,List.append_nil] at aG
  have g5:((pre.length+1)*25<=549755813888)=True:=eq_true (by omega)
  have aeU:acc.length / 2=c:=by omega
  have ep:an pre++[AV.list c (bU acc)]=an (pre++[acc]):=by simp [an,aeU]
  simp only [ab,ae,aj,Int.ofNat_lt,hp,if_false,g5,if_true,qc,ep,jN]
  by_cases hc:c=1
  ·rw [if_pos (by omega),aeS acc aG (by omega)]
   simp
  ·obtain ⟨k',rfl,hwn,e3⟩:=fin acc aG (by omega)
   have w2:IntKind.i64.wrap (2*(w:Int))=((2*w:Nat):Int):=by rw [wrap64]<;>omega
   have aeV:n<=2*w*2 ^ k':=by
    rw [Nat.pow_succ,Nat.mul_comm (2 ^ k') 2,←Nat.mul_assoc,Nat.mul_comm w 2] at hkw;exact hkw
   rw [if_neg (by omega),w2,e3]
   have:=ih k' (by omega) (2*w) (pre++[acc]) x3 x4 x5 x6 x7 (by omega) (by omega) aeV (by simp;omega)
   simpa using this
end Go.Abs
end
noncomputable section
namespace Go.Abs
open Go.Proofs Classical
theorem Hd {b:Int} {n:Nat} (Ls:List (List (Option Nat))):gT (.v (.agg [.int .i64 b,.list n (an Ls)])):=j_ fun c hc=>by
 rcases List.mem_cons.1 hc with rfl | hc
 ·exact .int _ _
 rcases List.mem_cons.1 hc with rfl | hc
 ·exact .list _ _ (zO Ls)
 cases hc
theorem LH {b:Int} {m:Nat} {ls:List AV} (h:qd m ls):gT (.v (.agg [.int .i64 b,.list m ls])):=j_ fun c hc=>by
 rcases List.mem_cons.1 hc with rfl | hc
 ·exact .int _ _
 rcases List.mem_cons.1 hc with rfl | hc
 ·refine .list _ _ fun x hx=>?_
  obtain ⟨k,cs,rfl,h1,_⟩:=h.2.2 x hx
  exact .list _ _ fun y hy=>(oS h1 y hy).cell
 cases hc
def EK:fr:=fun ai R K=>match ai with
 | [.list n cs,.int .i64 b]=>gO (S_ (decide (bu n cs))) (K [.v (.agg [.int .i64 (S_ ((al n (fO cs) b).1)),.list (S_ ((al n (fO cs) b).2.length)) (S_ (an (al n (fO cs) b).2))]),.v (.int .i64 (S_ (l_ n (fO cs) b)))])
 | _=>none
theorem NM:bG Tryz.prog 20 EK:=by
 intro ai R K r ha h
 unfold EK at h
 split at h
 ·rename_i n cs b
  obtain ⟨h1,h2⟩:=aD h
  rw [ab] at h1
  have bM:=of_decide_eq_true h1
  refine ⟨[.v (.agg [.int .i64 ((al n (fO cs) b).1),.list ((al n (fO cs) b).2.length) (an (al n (fO cs) b).2)]),.v (.int .i64 (l_ n (fO cs) b))],fun _ _=>by simp only [EK,ab,decide_eq_true bM,gO],?_,bf o5 (W:=cQ) (N:=1) (k:=12) (ms:=[false,false]) ?_ ha trivial⟩
  ·intro l hl;rcases List.mem_cons.1 hl with rfl | hl
   ·exact (Hd _)
   rcases List.mem_cons.1 hl with rfl | hl
   ·exact bh
   cases hl
  ·exact Uq bM
 ·cases h
def xc:fr:=fun ai R K=>match ai with
 | [.agg [.int .i64 b,.list m ls]]=>gO (S_ (decide (qd m ls))) (K [.v (.agg [.int .i64 (S_ (b)),.list (S_ (m)) (S_ (ls))])])
 | _=>none
theorem Rb:bG Tryz.prog 26 xc:=by
 intro ai R K r ha h
 unfold xc at h
 split at h
 ·rename_i b m ls
  obtain ⟨h1,h2⟩:=aD h
  rw [ab] at h1
  have bM:=of_decide_eq_true h1
  refine ⟨[.v (.agg [.int .i64 (b),.list (m) (ls)])],fun _ _=>by simp only [xc,ab,decide_eq_true bM,gO],?_,bf o5 (W:=cQ) (N:=m+1) (k:=12) (ms:=[false]) ?_ ha trivial⟩
  ·intro l hl;rcases List.mem_cons.1 hl with rfl | hl
   ·exact (LH bM)
   cases hl
  ·exact Ur bM
 ·cases h
theorem Rc:bG Tryz.prog 28 xc:=by
 intro ai R K r ha h
 unfold xc at h
 split at h
 ·rename_i b m ls
  obtain ⟨h1,h2⟩:=aD h
  rw [ab] at h1
  have bM:=of_decide_eq_true h1
  refine ⟨[.v (.agg [.int .i64 (b),.list (m) (ls)])],fun _ _=>by simp only [xc,ab,decide_eq_true bM,gO],?_,bf o5 (W:=cQ) (N:=m+5002) (k:=12) (ms:=[false]) ?_ ha trivial⟩
  ·intro l hl;rcases List.mem_cons.1 hl with rfl | hl
   ·exact (LH bM)
   cases hl
  ·exact Us bM (by omega)
 ·cases h
def qj:fr:=fun ai R K=>match ai with
 | [.list n cs,.int .i64 b]=>gO (S_ (decide (bu n cs/\n<=5000/\1<=b/\b<=10000))) (K [.v (.agg [.int .i64 (S_ (b)),.list (S_ ((eG (fO cs) b.toNat).length)) (S_ (an (eG (fO cs) b.toNat)))])])
 | _=>none
theorem EL:bG Tryz.prog 24 qj:=by
 intro ai R K r ha h
 unfold qj at h
 split at h
 ·rename_i n cs b
  obtain ⟨h1,h2⟩:=aD h
  rw [ab] at h1
  have bM:=of_decide_eq_true h1
  refine ⟨[.v (.agg [.int .i64 (b),.list ((eG (fO cs) b.toNat).length) (an (eG (fO cs) b.toNat))])],fun _ _=>by simp only [qj,ab,decide_eq_true bM,gO],?_,bf o5 (W:=cQ) (N:=n+21) (k:=12) (ms:=[false]) ?_ ha trivial⟩
  ·intro l hl;rcases List.mem_cons.1 hl with rfl | hl
   ·exact (Hd _)
   cases hl
  ·exact Ut bM.1 bM.2.1 bM.2.2.1 bM.2.2.2 (by omega)
 ·cases h
def mzL:List (FuncId × fr):=(20,EK)::(26,xc)::(28,xc)::(24,qj)::H8
theorem aat:eZ Tryz.prog mzL:=⟨NM,Rb,Rc,EL,o5⟩
end Go.Abs
end
