/- Part 28 of the library of the proof: an abstract run of the program. -/
import Derived.Test.YtkloadomnblkeaaGreatDoorAp15
import Derived.Test.YtkloadomnblkeaaGreatDoorAp26
import Derived.Test.YtkloadomnblkeaaGreatDoorAp27
set_option linter.unusedVariables false
set_option linter.unusedSimpArgs false

noncomputable section
namespace Go.Abs
open Go.Proofs Classical Go.Abs.Fin
def buildE (n:Nat) (xs:List (Option Nat)) (b:Int):Int:=if sampErr n xs=0 then (if b<1\/b>256 then 3 else 0) else sampErr n xs
def buildV (n:Nat) (xs:List (Option Nat)) (b:Int):Int × List (List (Option Nat)):=if buildE n xs b=0 then (b,levelsF xs b.toNat) else (0,[])
theorem run_20' {n:Nat} {cs:List AV} {b:Int} (h:Flos n cs):(fsM mzK waysQ 1 12).call (List RLeaf) 20 [.ofB (.list n cs),.ofB (.int .i64 b)] [] (resK [false,false])=
  some [.v (.agg [.int .i64 (buildV n (fO cs) b).1,.list (buildV n (fO cs) b).2.length (lvCells (buildV n (fO cs) b).2)]),.v (.int .i64 (buildE n (fO cs) b))]:=by
 rw [run_20]
 simp only [shut_eq,guardO_dec,h,if_true,put2,ints2,firstNZ_2,condO_bne]
 rw [show (if sampErr n (fO cs)=0 then (if b<1\/b>256 then (3:Int) else 0) else sampErr n (fO cs))=buildE n (fO cs) b from rfl]
 by_cases h0:buildE n (fO cs) b=0
 ·have hs:sampErr n (fO cs)=0/\1<=b/\b<=256:=by
   unfold buildE at h0
   split at h0
   ·rename_i h1
    refine ⟨h1,?_⟩
    split at h0<;>omega
   ·rename_i h1;exact absurd h0 h1
  obtain ⟨hn,hf⟩:=samp_all hs.1
  have g:(n<=5000/\FinL (fO cs)/\1<=b/\b<=100000)=True:=eq_true ⟨by omega,hf,by omega,by omega⟩
  have e:buildV n (fO cs) b=(b,levelsF (fO cs) b.toNat):=if_pos h0
  rw [if_pos h0,e,h0]
  simp only [g,and_self,if_true]
 ·have e:buildV n (fO cs) b=(0,[]):=if_neg h0
  rw [if_neg h0,e]
  rfl
def Lvs (m:Nat) (ls:List AV):Prop:=m<=5000/\ls.length=m/\∀ c∈ls,∃ k cs,c=AV.list k cs/\Flos (2*k) cs/\k<=5000
theorem Lvs.get {m:Nat} {ls:List AV} (h:Lvs m ls) {i:Nat} (hi:i<m):∃ k cs,ls.getD i .top=.list k cs/\Flos (2*k) cs/\k<=5000:=by
 have hl:=h.2.1
 have:ls.getD i .top∈ls:=by
  rw [List.getD_eq_getElem?_getD,List.getElem?_eq_getElem (by omega)];exact List.getElem_mem _
 exact h.2.2 _ this
theorem asList_list {k:Nat} {cs:List AV}:asList (.list k cs)=some (k,cs):=rfl
theorem take_one {xs:List AV} {i:Nat} {x:AV} (h:i<xs.length) (hx:xs.getD i .top=x):xs.take i++[x]=xs.take (i+1):=by
 rw [List.take_add_one,List.getElem?_eq_getElem h,←hx,List.getD_eq_getElem?_getD,List.getElem?_eq_getElem h];rfl
theorem run_26' {m:Nat} {ls:List AV} {b:Int} (h:Lvs m ls):(fsM mzK waysQ (m+1) 12).call (List RLeaf) 26 [.s (.agg [.b (.int .i64 b),.b (.list m ls)])] [] (resK [false])=
  some [.v (.agg [.int .i64 b,.list m ls])]:=by
 rw [run_26]
 have hl:=h.2.1
 have hm:=h.1
 refine (loopC_rule (fun k (r:(Nat->List AV->Int->Int->Int->Nat->List AV->Nat->List AV->Int->Nat->List AV->Int->Nat->List AV->Option (List RLeaf)) × PUnit.{1})=>∀ (i:Nat) (x4:Int) (x5:Nat) (x6:List AV) (x7:Nat) (x8:List AV) (x9:Int) (x10:Nat) (x11:List AV),i+k=m->
  r.1 m ls (m:Int) (i:Int) x4 x5 x6 x7 x8 x9 x10 x11 b i (ls.take i)=some [.v (.agg [.int .i64 b,.list m ls])]) ?_ (m+1) m (by omega)) 0 _ _ _ _ _ _ _ _ (by omega)
 intro k r ih i x4 x5 x6 x7 x8 x9 x10 x11 hi
 by_cases hk:i<m
 ·obtain ⟨k2,cs,e1,e2,e3⟩:=h.get hk
  have p0:0<ls.length:=by omega
  have wi:IntKind.i64.wrap ((i:Int)+1)=((i+1:Nat):Int):=by rw [wrap64]<;>omega
  have g1:(Flos (2*k2) cs/\k2<=100000)=True:=eq_true ⟨e2,by omega⟩
  have g5:((i+1)*25<=549755813888)=True:=eq_true (by omega)
  simp only [shut_eq,condO_dec,guardO_dec,Int.ofNat_lt,hk,p0,if_true,Int.natCast_nonneg,true_and,and_true,Int.toNat_natCast,Nat.mul_one,e1,asList_list,bindO_ok,g1,g5,wi,put_lev]
  rw [take_one (by omega) e1]
  exact ih (k-1) (by omega) (i+1) _ _ _ _ _ _ _ _ (by omega)
 ·have:i=m:=by omega
  subst this
  simp only [shut_eq,condO_dec,Int.ofNat_lt,hk,if_false]
  rw [List.take_of_length_le (by omega)]
theorem run_28' {m N:Nat} {ls:List AV} {b:Int} (h:Lvs m ls) (hN:m+5001<N):(fsM mzK waysQ N 12).call (List RLeaf) 28 [.s (.agg [.b (.int .i64 b),.b (.list m ls)])] [] (resK [false])=
  some [.v (.agg [.int .i64 b,.list m ls])]:=by
 rw [run_28]
 have hl:=h.2.1
 have hm:=h.1
 refine (loopC_rule (fun k (r:(Nat->List AV->Int->Int->Int->Nat->List AV->Nat->List AV->Int->Nat->List AV->Int->Nat->List AV->Option (List RLeaf)) × PUnit.{1})=>∀ (i:Nat) (x4:Int) (x5:Nat) (x6:List AV) (x7:Nat) (x8:List AV) (x9:Int) (x10:Nat) (x11:List AV),i+k=m->
  r.1 m ls (m:Int) (i:Int) x4 x5 x6 x7 x8 x9 x10 x11 b i (ls.take i)=some [.v (.agg [.int .i64 b,.list m ls])]) ?_ N m (by omega)) 0 _ _ _ _ _ _ _ _ (by omega)
 intro k r ih i x4 x5 x6 x7 x8 x9 x10 x11 hi
 by_cases hk:i<m
 ·obtain ⟨n,cs,e1,e2,e3⟩:=h.get hk
  have p0:0<ls.length:=by omega
  have wi:IntKind.i64.wrap ((i:Int)+1)=((i+1:Nat):Int):=by rw [wrap64]<;>omega
  have g5:((i+1)*25<=549755813888)=True:=eq_true (by omega)
  simp only [shut_eq,condO_dec,guardO_dec,Int.ofNat_lt,hk,p0,if_true,Int.natCast_nonneg,true_and,and_true,Int.toNat_natCast,Nat.mul_one,e1,asList_list,bindO_ok,g5,wi,put_lev]
  have hll:=e2.len
  have hcl:=e2.2.2
  have hcs:flosL (fO cs)=cs:=e2.2.1.symm
  refine loopC_rule (fun k2 (r2:Nat->List AV->Int->Int->Nat->List AV->Int->Int->Int->Nat->List AV->Nat->List AV->Int->Nat->List AV->Int->Nat->List AV->Nat->List AV->Option (List RLeaf))=>∀ (j:Nat),j+k2=n->
   r2 m ls (m:Int) (i:Int) n cs (n:Int) (j:Int) x4 x5 x6 x7 x8 x9 x10 x11 b i (ls.take i) j (flosL ((fO cs).take (2*j)))=some [.v (.agg [.int .i64 b,.list m ls])]) ?_ N n (by omega) 0 (by omega)
  intro k2 r2 ih2 j hj
  by_cases hk2:j<n
  ·have ge1:=e2.get (i:=2*j) (by omega)
   have ge2:=e2.get (i:=2*j+1) (by omega)
   have wj:IntKind.i64.wrap ((j:Int)+1)=((j+1:Nat):Int):=by rw [wrap64]<;>omega
   have q0:0<cs.length:=by omega
   have q1:(2*j+2<=cs.length)=True:=eq_true (by omega)
   have hcm:j*2=2*j:=by omega
   have g6:((j+1)*9<=549755813888)=True:=eq_true (by omega)
   simp only [shut_eq,condO_dec,guardO_dec,Int.ofNat_lt,hk2,q0,if_true,Int.natCast_nonneg,true_and,and_true,Int.toNat_natCast,hcm,q1,ge1,ge2,bindO_ok,wj,g6,put_pairN,←flosL_app]
   rw [←take_two (by omega)]
   exact ih2 (k2-1) (by omega) (j+1) (by omega)
  ·have:j=n:=by omega
   subst this
   simp only [shut_eq,condO_dec,guardO_dec,Int.ofNat_lt,hk2,if_false,g5,if_true,put_lev,wi]
   rw [show (fO cs).take (2*j)=fO cs from List.take_of_length_le (by omega),hcs,take_one (by omega) e1]
   exact ih (k-1) (by omega) (i+1) _ _ _ _ _ _ _ _ (by omega)
 ·have:i=m:=by omega
  subst this
  simp only [shut_eq,condO_dec,Int.ofNat_lt,hk,if_false]
  rw [List.take_of_length_le (by omega)]
end Go.Abs
end
noncomputable section
namespace Go.Abs
open Go.Proofs Classical Go.Abs.Fin
theorem flos_cut {n:Nat} {cs:List AV} (h:Flos n cs) {i m:Nat} (hm:i+m<=n):Flos m ((cs.drop i).take m)/\fO ((cs.drop i).take m)=((fO cs).drop i).take m:=by
 have e:fO ((cs.drop i).take m)=((fO cs).drop i).take m:=by simp [fO,List.map_take,List.map_drop]
 refine ⟨⟨by have:=h.1;omega,?_,?_⟩,e⟩
 ·rw [e]
  have:=h.2.1
  conv=>lhs;rw [this]
  simp [List.map_take,List.map_drop]
 ·have:=h.2.2
  simp;omega
end Go.Abs
end
noncomputable section
namespace Go.Abs
open Go.Proofs Classical Go.Abs.Fin
def cutW (xs:List (Option Nat)) (w p:Nat):List (Option Nat):=(xs.drop p).take (min (p+w) xs.length-p)
def rowF (xs:List (Option Nat)) (w:Nat):Nat->Nat->List (Option Nat)
 | 0,_=>[]
 | k+1,p=>if p<xs.length then [extV .lt ((cutW xs w p).getD 0 none) (cutW xs w p),extV .gt ((cutW xs w p).getD 0 none) (cutW xs w p)]++rowF xs w k (p+w) else []
def refF (xs:List (Option Nat)):Nat->Nat->List (List (Option Nat))
 | 0,w=>[rowF xs w xs.length 0]
 | k+1,w=>if (rowF xs w xs.length 0).length=2 then [rowF xs w xs.length 0] else rowF xs w xs.length 0::refF xs k (2*w)
def refLv (xs:List (Option Nat)) (b:Nat):List (List (Option Nat)):=if xs.length=0 then [] else refF xs 13 b
theorem rowF_one {xs:List (Option Nat)} {w:Nat} (h:xs.length<=w) (h0:0<xs.length):(rowF xs w xs.length 0).length=2:=by
 cases hk:xs.length with
 | zero=>omega
 | succ k=>
  rw [rowF,if_pos h0]
  cases k with
  | zero=>rfl
  | succ k=>rw [rowF,if_neg (by omega)];rfl
theorem run_24' {n N:Nat} {cs:List AV} {b:Int} (h:Flos n cs) (hn:n<=5000) (hb:1<=b) (hb2:b<=10000) (hN:n+20<N):
  (fsM mzK waysQ N 12).call (List RLeaf) 24 [.ofB (.list n cs),.ofB (.int .i64 b)] [] (resK [false])=
  some [.v (.agg [.int .i64 b,.list (refLv (fO cs) b.toNat).length (lvCells (refLv (fO cs) b.toNat))])]:=by
 obtain ⟨B,rfl⟩:=Int.eq_ofNat_of_zero_le (show 0<=b by omega)
 rw [run_24]
 have hl:=h.len
 have hcl:=h.2.2
 by_cases hn0:n=0
 ·refine (loopC_rule (fun k (r:(Nat->List AV->Int->Nat->List AV->Int->Nat->List AV->Int->Nat->List AV->Option (List RLeaf)) × PUnit.{1})=>r.1 n cs (B:Int) 0 [] 0 0 [] (B:Int) 0 []=some [.v (.agg [.int .i64 (B:Int),.list (refLv (fO cs) B).length (lvCells (refLv (fO cs) B))])]) ?_ N 0 (by omega))
  intro k r ih
  have g:((n:Int)>0)=False:=eq_false (by omega)
  have e:refLv (fO cs) B=[]:=if_pos (by omega)
  simp only [shut_eq,condO_dec,g,if_false,e]
  rfl
 have e:refLv (fO cs) B=refF (fO cs) 13 B:=if_neg (by omega)
 rw [Int.toNat_natCast,e]
 refine (loopC_rule (fun k (r:(Nat->List AV->Int->Nat->List AV->Int->Nat->List AV->Int->Nat->List AV->Option (List RLeaf)) × PUnit.{1})=>∀ (w:Nat) (pre:List (List (Option Nat))) (x3:Nat) (x4:List AV) (x5:Int) (x6:Nat) (x7:List AV),1<=w->w<=10000->n<=w*2 ^ k->pre.length+k<=13->
  r.1 n cs (w:Int) x3 x4 x5 x6 x7 (B:Int) pre.length (lvCells pre)=some [.v (.agg [.int .i64 (B:Int),.list (pre++refF (fO cs) k w).length (lvCells (pre++refF (fO cs) k w))])]) ?_ N 13 (by omega)) B [] _ _ _ _ _ (by omega) (by omega) (by omega) (by simp)
 intro k r ih w pre x3 x4 x5 x6 x7 hw1 hw2 hkw hpk
 have g0:((n:Int)>0)=True:=eq_true (by omega)
 simp only [shut_eq,condO_dec,g0,if_true]
 have fin:∀ L:List (Option Nat),L=rowF (fO cs) w n 0->L.length≠2->∃ k',k=k' + 1/\w<n/\refF (fO cs) k w=L::refF (fO cs) k' (2*w):=by
  intro L hL h2
  have hwn:w<n:=by
   rcases Nat.lt_or_ge w n with h3 | h3
   ·exact h3
   ·exact absurd (by rw [hL,←hl];exact rowF_one (by omega) (by omega)) h2
  cases k with
  | zero=>simp at hkw;omega
  | succ k=>exact ⟨k,rfl,hwn,by rw [refF,hl,←hL,if_neg h2]⟩
 have fin1:∀ L:List (Option Nat),L=rowF (fO cs) w n 0->L.length=2->refF (fO cs) k w=[L]:=by
  intro L hL h2
  cases k with
  | zero=>rw [refF,hl,←hL]
  | succ k=>rw [refF,hl,←hL,if_pos h2]
 refine loopC_rule (fun k2 (r2:Nat->List AV->Int->Int->Nat->List AV->Int->Nat->List AV->Int->Nat->List AV->Nat->List AV->Option (List RLeaf))=>∀ (p c:Nat) (acc:List (Option Nat)),n<=p+k2->p<=n+w->acc.length=2*c->c<=p->acc++rowF (fO cs) w k2 p=rowF (fO cs) w n 0->
  r2 n cs (w:Int) (p:Int) x3 x4 x5 x6 x7 (B:Int) pre.length (lvCells pre) c (flosL acc)=some [.v (.agg [.int .i64 (B:Int),.list (pre++refF (fO cs) k w).length (lvCells (pre++refF (fO cs) k w))])]) ?_ N n (by omega) 0 0 [] (by omega) (by omega) rfl (by omega) rfl
 intro k2 r2 ih2 p c acc hpk2 hpn hac hcp hrow
 by_cases hp:p<n
 ·obtain ⟨k2,rfl⟩:∃ k',k2=k' + 1:=⟨k2-1,by omega⟩
  rw [rowF,if_pos (by omega)] at hrow
  have wp:IntKind.i64.wrap ((p:Int)+(w:Int))=((p+w:Nat):Int):=by rw [wrap64]<;>omega
  have em:(if (n:Int)<((p+w:Nat):Int) then (n:Int) else ((p+w:Nat):Int))=((min (p+w) n:Nat):Int):=by split<;>omega
  have hcut:=flos_cut h (i:=p) (m:=min (p+w) n-p) (by omega)
  have hcol:fO ((cs.drop p).take (min (p+w) n-p))=cutW (fO cs) w p:=by rw [hcut.2,cutW,hl]
  simp only [shut_eq,condO_dec,guardO_dec,Int.ofNat_lt,hp,if_true]
  simp only [wp,em,Int.toNat_natCast,Nat.mul_one,hcl,hcut.1,hcol,put_pairN,←flosL_app,Int.natCast_nonneg,true_and,if_true]
  rw [if_pos ⟨by omega,by omega⟩,if_pos (by omega),if_pos (by omega)]
  exact ih2 k2 (by omega) (p+w) (c+1) _ (by omega) (by omega) (by simp [hac];omega) (by omega) (by rw [←hrow,List.append_assoc])
 ·have e0:rowF (fO cs) w k2 p=[]:=by
   cases k2 with
   | zero=>rfl
   | succ k2=>rw [rowF,if_neg (by omega)]
  rw [e0,List.append_nil] at hrow
  have g5:((pre.length+1)*25<=549755813888)=True:=eq_true (by omega)
  have hacd:acc.length / 2=c:=by omega
  have ep:lvCells pre++[AV.list c (flosL acc)]=lvCells (pre++[acc]):=by simp [lvCells,hacd]
  simp only [shut_eq,condO_dec,guardO_dec,Int.ofNat_lt,hp,if_false,g5,if_true,put_lev,ep,condO_beq]
  by_cases hc:c=1
  ·rw [if_pos (by omega),fin1 acc hrow (by omega)]
   simp
  ·obtain ⟨k',rfl,hwn,e3⟩:=fin acc hrow (by omega)
   have w2:IntKind.i64.wrap (2*(w:Int))=((2*w:Nat):Int):=by rw [wrap64]<;>omega
   have hk2w:n<=2*w*2 ^ k':=by
    rw [Nat.pow_succ,Nat.mul_comm (2 ^ k') 2,←Nat.mul_assoc,Nat.mul_comm w 2] at hkw;exact hkw
   rw [if_neg (by omega),w2,e3]
   have:=ih k' (by omega) (2*w) (pre++[acc]) x3 x4 x5 x6 x7 (by omega) (by omega) hk2w (by simp;omega)
   simpa using this
end Go.Abs
end
noncomputable section
namespace Go.Abs
open Go.Proofs Classical
theorem leaf_pyr {b:Int} {n:Nat} (Ls:List (List (Option Nat))):LeafOk (.v (.agg [.int .i64 b,.list n (lvCells Ls)])):=leaf_agg fun c hc=>by
 rcases List.mem_cons.1 hc with rfl | hc
 ·exact .int _ _
 rcases List.mem_cons.1 hc with rfl | hc
 ·exact .list _ _ (lv_cells Ls)
 cases hc
theorem leaf_lv {b:Int} {m:Nat} {ls:List AV} (h:Lvs m ls):LeafOk (.v (.agg [.int .i64 b,.list m ls])):=leaf_agg fun c hc=>by
 rcases List.mem_cons.1 hc with rfl | hc
 ·exact .int _ _
 rcases List.mem_cons.1 hc with rfl | hc
 ·refine .list _ _ fun x hx=>?_
  obtain ⟨k,cs,rfl,h1,_⟩:=h.2.2 x hx
  exact .list _ _ fun y hy=>(flos2_plain h1 y hy).cell
 cases hc
def eBuild:Ent:=fun args' R K=>match args' with
 | [.list n cs,.int .i64 b]=>gO (S_ (decide (Flos n cs))) (K [.v (.agg [.int .i64 (S_ ((buildV n (fO cs) b).1)),.list (S_ ((buildV n (fO cs) b).2.length)) (S_ (lvCells (buildV n (fO cs) b).2))]),.v (.int .i64 (S_ (buildE n (fO cs) b)))])
 | _=>none
theorem eBuild_20:EntOk Tryz.prog 20 eBuild:=by
 intro args' R K r ha h
 unfold eBuild at h
 split at h
 ·rename_i n cs b
  obtain ⟨h1,h2⟩:=guardO_some h
  rw [shut_eq] at h1
  have h1':=of_decide_eq_true h1
  refine ⟨[.v (.agg [.int .i64 ((buildV n (fO cs) b).1),.list ((buildV n (fO cs) b).2.length) (lvCells (buildV n (fO cs) b).2)]),.v (.int .i64 (buildE n (fO cs) b))],fun _ _=>by simp only [eBuild,shut_eq,decide_eq_true h1',gO],?_,con_of mzK_ok (W:=waysQ) (N:=1) (k:=12) (ms:=[false,false]) ?_ ha trivial⟩
  ·intro l hl;rcases List.mem_cons.1 hl with rfl | hl
   ·exact (leaf_pyr _)
   rcases List.mem_cons.1 hl with rfl | hl
   ·exact leaf_int
   cases hl
  ·exact run_20' h1'
 ·cases h
def eTree:Ent:=fun args' R K=>match args' with
 | [.agg [.int .i64 b,.list m ls]]=>gO (S_ (decide (Lvs m ls))) (K [.v (.agg [.int .i64 (S_ (b)),.list (S_ (m)) (S_ (ls))])])
 | _=>none
theorem eTree_26:EntOk Tryz.prog 26 eTree:=by
 intro args' R K r ha h
 unfold eTree at h
 split at h
 ·rename_i b m ls
  obtain ⟨h1,h2⟩:=guardO_some h
  rw [shut_eq] at h1
  have h1':=of_decide_eq_true h1
  refine ⟨[.v (.agg [.int .i64 (b),.list (m) (ls)])],fun _ _=>by simp only [eTree,shut_eq,decide_eq_true h1',gO],?_,con_of mzK_ok (W:=waysQ) (N:=m+1) (k:=12) (ms:=[false]) ?_ ha trivial⟩
  ·intro l hl;rcases List.mem_cons.1 hl with rfl | hl
   ·exact (leaf_lv h1')
   cases hl
  ·exact run_26' h1'
 ·cases h
theorem eTree_28:EntOk Tryz.prog 28 eTree:=by
 intro args' R K r ha h
 unfold eTree at h
 split at h
 ·rename_i b m ls
  obtain ⟨h1,h2⟩:=guardO_some h
  rw [shut_eq] at h1
  have h1':=of_decide_eq_true h1
  refine ⟨[.v (.agg [.int .i64 (b),.list (m) (ls)])],fun _ _=>by simp only [eTree,shut_eq,decide_eq_true h1',gO],?_,con_of mzK_ok (W:=waysQ) (N:=m+5002) (k:=12) (ms:=[false]) ?_ ha trivial⟩
  ·intro l hl;rcases List.mem_cons.1 hl with rfl | hl
   ·exact (leaf_lv h1')
   cases hl
  ·exact run_28' h1' (by omega)
 ·cases h
def eRefBuild:Ent:=fun args' R K=>match args' with
 | [.list n cs,.int .i64 b]=>gO (S_ (decide (Flos n cs/\n<=5000/\1<=b/\b<=10000))) (K [.v (.agg [.int .i64 (S_ (b)),.list (S_ ((refLv (fO cs) b.toNat).length)) (S_ (lvCells (refLv (fO cs) b.toNat)))])])
 | _=>none
theorem eRefBuild_24:EntOk Tryz.prog 24 eRefBuild:=by
 intro args' R K r ha h
 unfold eRefBuild at h
 split at h
 ·rename_i n cs b
  obtain ⟨h1,h2⟩:=guardO_some h
  rw [shut_eq] at h1
  have h1':=of_decide_eq_true h1
  refine ⟨[.v (.agg [.int .i64 (b),.list ((refLv (fO cs) b.toNat).length) (lvCells (refLv (fO cs) b.toNat))])],fun _ _=>by simp only [eRefBuild,shut_eq,decide_eq_true h1',gO],?_,con_of mzK_ok (W:=waysQ) (N:=n+21) (k:=12) (ms:=[false]) ?_ ha trivial⟩
  ·intro l hl;rcases List.mem_cons.1 hl with rfl | hl
   ·exact (leaf_pyr _)
   cases hl
  ·exact run_24' h1'.1 h1'.2.1 h1'.2.2.1 h1'.2.2.2 (by omega)
 ·cases h
def mzL:List (FuncId × Ent):=(20,eBuild)::(26,eTree)::(28,eTree)::(24,eRefBuild)::mzK
theorem mzL_ok:TabLOk Tryz.prog mzL:=⟨eBuild_20,eTree_26,eTree_28,eRefBuild_24,mzK_ok⟩
end Go.Abs
end
