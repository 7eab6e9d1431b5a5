/- Part 34 of the library of the proof: an abstract run of the program. -/
import Derived.Test.YtkloadomnblkeaaGreatDoorAp31
import Derived.Test.YtkloadomnblkeaaGreatDoorAp33
set_option linter.unusedVariables false
set_option linter.unusedSimpArgs false

noncomputable section
namespace Go.Abs
open Go.Proofs Classical Go.Abs.Fin
def appE (n:Nat) (xs:List (Option Nat)) (b:Int) (m:Nat) (ls:List AV) (q:Nat) (ys:List (Option Nat)):Int:=
 if chkT n xs b m ls=0 then (if sampErr q ys=0 then (if n+q>4096 then 5 else 0) else sampErr q ys) else chkT n xs b m ls
def appV (n:Nat) (xs:List (Option Nat)) (b:Int) (m:Nat) (ls:List AV) (q:Nat) (ys:List (Option Nat)):List (Option Nat) × Int × List (List (Option Nat)):=
 if appE n xs b m ls q ys=0 then ((xs++ys).map clean1,b,levelsF ((xs++ys).map clean1) b.toNat) else ([],0,[])
theorem put_all {xs ys:List (Option Nat)} {n q:Nat} (h1:xs.length=n) (h2:ys.length=q):
  putCells (putCells (zrow (ofV (Go.Value.float Go.FloatKind.f32 0)).cells (n+q)) 0 (flosL xs)) n (flosL ys)=flosL (xs++ys):=by
 have e:zrow (ofV (Go.Value.float Go.FloatKind.f32 0)).cells (n+q)=List.replicate n (AV.flo .f32 (some 0))++List.replicate q (AV.flo .f32 (some 0)):=by
  rw [List.replicate_append_replicate]
  exact zrow1 _ _
 have l1:(flosL xs).length=n:=by rw [flosL_len,h1]
 have l2:(flosL ys).length=q:=by rw [flosL_len,h2]
 have a1:=putCells_mid (flosL xs) [] (List.replicate n (AV.flo .f32 (some 0))) (List.replicate q (AV.flo .f32 (some 0))) (by rw [List.length_replicate,l1])
 have a2:=putCells_mid (flosL ys) (flosL xs) (List.replicate q (AV.flo .f32 (some 0))) [] (by rw [List.length_replicate,l2])
 rw [List.nil_append,List.length_nil,List.nil_append] at a1
 rw [List.append_nil,List.append_nil,l1] at a2
 rw [e,a1,a2]
 simp [flosL]
theorem nl65:nlZero Tryz.prog 65 (ofV (Go.Value.slice Option.none 0 0))=ofV (Go.Value.slice Option.none 0 0):=by kernel_rfl
theorem put_one {xs:List (Option Nat)} {i:Nat} {o:Option Nat}:putCells (flosL xs) i [AV.flo .f32 o]=flosL (xs.set i o):=by
 simp [putCells,flosL,List.map_set]
theorem clean_step {zs:List (Option Nat)} {i:Nat} (h:i<zs.length):((zs.take i).map clean1++zs.drop i).set i (clean1 (zs.getD i none))=(zs.take (i+1)).map clean1++zs.drop (i+1):=by
 have e1:zs.drop i=zs.getD i none::zs.drop (i+1):=by
  rw [List.drop_eq_getElem_cons h,List.getD_eq_getElem?_getD,List.getElem?_eq_getElem h];rfl
 have e2:zs.take (i+1)=zs.take i++[zs.getD i none]:=by
  rw [List.take_add_one,List.getD_eq_getElem?_getD,List.getElem?_eq_getElem h];rfl
 have hl:((zs.take i).map clean1).length=i:=by rw [List.length_map,List.length_take];omega
 rw [e1,e2,List.map_append,List.append_assoc,List.set_append_right _ _ (by omega),hl,Nat.sub_self]
 rfl
theorem clean_get {zs:List (Option Nat)} {i:Nat} (h:i<zs.length):((zs.take i).map clean1++zs.drop i).getD i none=zs.getD i none:=by
 have hl:((zs.take i).map clean1).length=i:=by rw [List.length_map,List.length_take];omega
 rw [List.getD_eq_getElem?_getD,List.getElem?_append_right (by omega),hl,Nat.sub_self,List.getElem?_drop,Nat.add_zero,List.getD_eq_getElem?_getD]
theorem clean_len {zs:List (Option Nat)} {i:Nat}:((zs.take i).map clean1++zs.drop i).length=zs.length:=by
 rw [List.length_append,List.length_map,List.length_take,List.length_drop];omega
theorem run_79' {n m q N:Nat} {cs ls ds:List AV} {b:Int} (h:Flos n cs) (h':Lvs m ls) (hd:Flos q ds) (hN:n+q+20<N):
  (fsM mzAp waysQ N 12).call (List RLeaf) 79 [.ofB (.list n cs),.s (.agg [.b (.int .i64 b),.b (.list m ls)]),.ofB (.list q ds)] [] (resK [true,false,false])=
  some [.fz (appV n (fO cs) b m ls q (fO ds)).1.length (flosL (appV n (fO cs) b m ls q (fO ds)).1),
   .v (.agg [.int .i64 (appV n (fO cs) b m ls q (fO ds)).2.1,.list (appV n (fO cs) b m ls q (fO ds)).2.2.length (lvCells (appV n (fO cs) b m ls q (fO ds)).2.2)]),
   .v (.int .i64 (appE n (fO cs) b m ls q (fO ds)))]:=by
 rw [run_79]
 have hn:=h.1
 have hq:=hd.1
 have hxl:=h.len
 have hyl:=hd.len
 simp only [shut_eq,guardO_dec,h,h',hd,and_self,if_true,put3n,ints3n,firstNZ_3,condO_bne,decide_eq_true_eq]
 by_cases hc:chkT n (fO cs) b m ls=0
 case neg=>
  have e1:appE n (fO cs) b m ls q (fO ds)=chkT n (fO cs) b m ls:=if_neg hc
  have e2:appV n (fO cs) b m ls q (fO ds)=([],0,[]):=if_neg (by rw [e1];exact hc)
  rw [e2,e1,if_neg hc,if_neg hc]
  rfl
 by_cases hs:sampErr q (fO ds)=0
 case neg=>
  have e1:appE n (fO cs) b m ls q (fO ds)=sampErr q (fO ds):=by unfold appE;rw [if_pos hc,if_neg hs]
  have e2:appV n (fO cs) b m ls q (fO ds)=([],0,[]):=if_neg (by rw [e1];exact hs)
  rw [e2,e1,if_pos hc,if_neg hs,if_neg hs]
  rfl
 have hx:sampErr n (fO cs)=0/\¬ (b<1\/b>256):=by
  unfold chkT at hc
  by_cases h1:sampErr n (fO cs)=0
  ·rw [if_pos h1] at hc
   refine ⟨h1,fun hb=>?_⟩
   rw [if_pos hb] at hc
   cases hc
  ·rw [if_neg h1] at hc
   exact absurd hc h1
 obtain ⟨hn4,hfx⟩:=samp_all hx.1
 obtain ⟨hq4,hfy⟩:=samp_all hs
 have w1:IntKind.i64.wrap ((n:Int)+(q:Int))=((n+q:Nat):Int):=by rw [wrap64]<;>omega
 rw [w1]
 by_cases ht:n+q>4096
 case pos=>
  have e1:appE n (fO cs) b m ls q (fO ds)=5:=by unfold appE;rw [if_pos hc,if_pos hs,if_pos ht]
  have e2:appV n (fO cs) b m ls q (fO ds)=([],0,[]):=if_neg (by rw [e1];decide)
  have g:((n+q:Nat):Int)>4096:=by omega
  simp only [e2,e1,hc,hs,g,if_true]
  rfl
 have e1:appE n (fO cs) b m ls q (fO ds)=0:=by unfold appE;rw [if_pos hc,if_pos hs,if_neg ht]
 have e2:appV n (fO cs) b m ls q (fO ds)=_:=if_pos e1
 have g:¬ ((n+q:Nat):Int)>4096:=by omega
 have g2:((0:Int)<=((n+q:Nat):Int)/\((n+q:Nat):Int)<=((n+q:Nat):Int)/\((n+q:Nat):Int)<=281474976710656/\(4:Int)*((n+q:Nat):Int)<=281474976710656)=True:=eq_true (by omega)
 have c1:cs.length=n*1:=by rw [Nat.mul_one];exact h.2.2
 have c2:ds.length=q*1:=by rw [Nat.mul_one];exact hd.2.2
 have m1:n.min (n+q)=n:=Nat.min_eq_left (by omega)
 have m2:n+q-n=q:=by omega
 have m3:q.min q=q:=Nat.min_self _
 have ec:cs=flosL (fO cs):=h.2.1
 have ed:ds=flosL (fO ds):=hd.2.1
 have t1:List.take n cs=flosL (fO cs):=by rw [←ec];exact List.take_of_length_le (by omega)
 have t2:List.take q ds=flosL (fO ds):=by rw [←ed];exact List.take_of_length_le (by omega)
 have g3:((0:Int)<=(n:Int)/\(n:Int)<=((n+q:Nat):Int)/\((n+q:Nat):Int)<=((n+q:Nat):Int))=True:=eq_true (by omega)
 simp only [e2,e1,hc,hs,g,if_true,if_false,g2,c1,c2,Int.toNat_natCast,m1,g3,Nat.mul_one,m2,m3,t1,t2,put_all hxl hyl,beq_self_eq_true,bne_self_eq_false]
 obtain ⟨zs,hz⟩:∃ zs,zs=fO cs++fO ds:=⟨_,rfl⟩
 rw [←hz]
 obtain ⟨T,hT⟩:∃ T,T=n+q:=⟨_,rfl⟩
 rw [←hT]
 have hzl:zs.length=T:=by rw [hz,List.length_append,hxl,hyl,hT]
 have hzf:FinL zs:=fun x hx=>by
  rw [hz] at hx
  rcases List.mem_append.1 hx with hx | hx
  ·exact hfx x hx
  ·exact hfy x hx
 have hT4:T<=4096:=by omega
 have hNT:T+20<N:=by omega
 have hb:=hx.2
 clear hz hT m1 m2 m3 t1 t2 g3 g2 ec ed c1 c2 w1 ht e1 e2 g hx
 generalize [AV.int IntKind.i64 0,AV.int IntKind.i64 0,AV.int IntKind.i64 0]=C3
 refine loopC_rule (fun k (r:Int->Int->Int->Nat->List AV->Nat->List AV->Nat->List AV->Int->Nat->List AV->Nat->List AV->Option (List RLeaf))=>∀ i:Nat,i+k=T->
  r (T:Int) (i:Int) b m ls 0 [] 0 [] 0 3 C3 T (flosL ((zs.take i).map clean1++zs.drop i))=some [.fz (List.map clean1 zs).length (flosL (List.map clean1 zs)),
   .v (.agg [.int .i64 b,.list (levelsF (List.map clean1 zs) b.toNat).length (lvCells (levelsF (List.map clean1 zs) b.toNat))]),.v (.int .i64 0)]) ?_ N T (by omega) 0 (by omega)
 intro k r ih i hi
 by_cases hk:i<T
 ·have hl:i<((zs.take i).map clean1++zs.drop i).length:=by rw [clean_len];omega
  have p0:(0<=(i:Int)/\(i:Int)<(T:Int))=True:=eq_true (by omega)
  have p1:(!(false&&T.beq 0))=true:=rfl
  have p2:(i+1<=(flosL ((zs.take i).map clean1++zs.drop i)).length)=True:=eq_true (by rw [flosL_len,clean_len];omega)
  have wi:IntKind.i64.wrap ((i:Int)+1)=((i+1:Nat):Int):=by rw [wrap64]<;>omega
  have hlt:((i:Int)<(T:Int))=True:=eq_true (by omega)
  simp only [condO_dec,hlt,if_true,p0,p1,gO,Int.toNat_natCast,flosL_get hl,clean_get (show i<zs.length by omega),bindO_ok,p2,put_one,clean_step (show i<zs.length by omega),wi]
  exact ih (k-1) (by omega) (i+1) (by omega)
 ·have hiT:i=T:=by omega
  subst hiT
  have hlt:((i:Int)<(i:Int))=False:=eq_false (by omega)
  have ez:(zs.take i).map clean1++zs.drop i=zs.map clean1:=by
   rw [List.take_of_length_le (by omega),List.drop_eq_nil_of_le (by omega),List.append_nil]
  simp only [condO_dec,hlt,if_false,ez]
  obtain ⟨xs,hxs⟩:∃ xs,xs=zs.map clean1:=⟨_,rfl⟩
  have hl:xs.length=i:=by rw [hxs,List.length_map];exact hzl
  have hf:FinL xs:=fun x hx'=>by
   rw [hxs] at hx'
   obtain ⟨y,hy,rfl⟩:=List.mem_map.1 hx'
   exact finB_clean (hzf y hy)
  rw [←hxs]
  clear ez hxs ih
  obtain ⟨B,rfl⟩:=Int.eq_ofNat_of_zero_le (show 0<=b by omega)
  by_cases hn0:i=0
  ·have:((i:Int)==0)=true:=by subst hn0;rfl
   unfold levelsF
   rw [hl,if_pos hn0]
   simp only [this,cO]
   rfl
  have hz0:((i:Int)==0)=false:=beq_eq_false_iff_ne.2 (by omega)
  have hfo:fO (flosL xs)=xs:=flosOf_L
  have hF:Flos i (flosL xs):=by rw [←hl];exact Flos_L (by omega)
  have g1:(Flos i (flosL xs)/\i<=100000/\FinL xs/\(1:Int)<=(B:Int)/\(B:Int)<=100000)=True:=eq_true ⟨hF,by omega,hf,by omega,by omega⟩
  have hfl:=first_len (xs:=xs) (b:=B) (by omega)
  have hff:=grpF_fin (a:=B) (dupC xs) 0 [] (fun x hx=>by cases hx) (by simp) (by omega) (dupC_fin hf)
  have hcb:(i+B-1) / B<=i:=by
   rw [Nat.div_le_iff_le_mul_add_pred (by omega)]
   have:i<=B*i:=Nat.le_mul_of_pos_left _ (by omega)
   omega
  rw [hl] at hfl
  unfold levelsF
  rw [hl,if_neg hn0]
  simp only [hz0,condO_fx,hfo,g1,if_true,Int.toNat_natCast,nl65,put_lev]
  generalize grpF B 0 [] (dupC xs)=L0 at hfl hff
  have p1:(!(false&&Nat.beq 1 0))=true:=rfl
  simp only [p1,gO]
  rw [if_pos ⟨by omega,by omega⟩]
  clear g1 hz0 hb
  refine loopC_rule (fun k (r:Nat->List AV->Int->Nat->List AV->Nat->List AV->Nat->List AV->Int->Nat->List AV->Nat->List AV->Nat->List AV->Nat->List AV->Option (List RLeaf))=>∀ (L:List (Option Nat)) (pre:List (List (Option Nat))) (M:Nat) (y2:Nat) (y3:List AV),L.length=2*M->M<=k->FinL L->M+pre.length<=i->
   r (L.length / 2) (flosL L) (B:Int) m ls 0 [] 0 [] 0 3 C3 i (flosL xs) y2 y3 (pre.length+1) (lvCells (pre++[L]))=some [.fz i (flosL xs),
    .v (.agg [.int .i64 (B:Int),.list (pre++levF k L).length (lvCells (pre++levF k L))]),.v (.int .i64 0)]) ?_ N i (by omega) L0 [] ((i+B-1) / B) _ _ hfl hcb hff (by simp;omega)
  intro k r ih L pre M x2 x3 hL hmk hfL hpm
  have hm2:L.length / 2=M:=by omega
  by_cases h1:M>1
  ·obtain ⟨k,rfl⟩:∃ k',k=k' + 1:=⟨k-1,by omega⟩
   have hFl:Flos (2*M) (flosL L):=by rw [←hL];exact Flos_L (by omega)
   have g1:(Flos (2*M) (flosL L)/\M<=100000/\FinL L/\(1:Int)<=2/\(2:Int)<=100000)=True:=eq_true ⟨hFl,by omega,hfL,by omega,by omega⟩
   have g2:((pre.length+1+1)*25<=549755813888)=True:=eq_true (by omega)
   have g3:((M:Int)>1)=True:=eq_true (by omega)
   rw [levF,hm2,if_pos h1]
   simp only [condO_dec,g3,flosOf_L,g1,g2,if_true,nl65,put_lev]
   have hh:=half_len L
   rw [hm2] at hh
   have:=ih k (by omega) (grpF 2 0 [] (pairsF L)) (pre++[L]) ((M+1) / 2) x2 x3 hh (by omega) (grpF_fin (pairsF L) 0 [] (fun x hx=>by cases hx) (by simp) (by omega) (pairsF_fin hfL)) (by simp;omega)
   simpa [lvCells] using this
  ·have g3:((M:Int)>1)=False:=eq_false (by omega)
   have e:levF k L=[L]:=by
    cases k with
    | zero=>rfl
    | succ k=>rw [levF,if_neg (by omega)]
   rw [e,hm2]
   simp only [condO_dec,g3,if_false,and_self,if_true]
   simp
end Go.Abs
end
