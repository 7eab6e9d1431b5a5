/- Part 40 of the library that the proof of the statement uses: an abstract run of the program, proved right, and what its functions give. -/
import Derived.Test.YtkloadomnblkeaaGreatDoorSr37
import Derived.Test.YtkloadomnblkeaaGreatDoorSr38
import Derived.Test.YtkloadomnblkeaaGreatDoorSr39
set_option linter.unusedVariables false
set_option linter.unusedSimpArgs false

set_option maxRecDepth 100000
noncomputable section
namespace Go.Abs
open Go.Proofs Classical Go.Abs.Fin
theorem put2n' (u v:Int):putCells (putCells (zrow (ofV (Go.Value.int IntKind.i64 (0:Int))).cells 2) 0 [AV.int IntKind.i64 u]) 1 [AV.int IntKind.i64 v]=[AV.int .i64 u,AV.int .i64 v]:=rfl
theorem ints2n' (u v:Int):Ints 2 [AV.int IntKind.i64 u,AV.int IntKind.i64 v]:=⟨by omega,rfl,rfl⟩
theorem firstNZ_2' (a b:Int):firstNZ (intsOf [AV.int .i64 a,AV.int .i64 b])=if a=0 then b else a:=by
  simp only [intsOf,List.map_cons,List.map_nil,toI,firstNZ]
  by_cases h:a=0<;>by_cases h2:b=0<;>simp [h,h2]
def peakE (n:Nat) (xs:List (Option Nat)) (b:Int) (m:Nat) (ls:List AV):Int:=
  if chkT n xs b m ls=0 then (if ((n:Int)==0)=true then (12:Int) else 0) else chkT n xs b m ls
theorem peak_zero {n m:Nat} {xs:List (Option Nat)} {b:Int} {ls:List AV} (hn:xs.length=n) (h:peakE n xs b m ls=0):
    ∃ A:Nat,b=(A:Int)/\0<n/\TreeOk xs A m ls:=by
  unfold peakE at h
  split at h
  · rename_i hc
    obtain ⟨A,rfl,hT⟩:=tree_ok hn hc
    refine ⟨A,rfl,?_,hT⟩
    by_cases h0:n=0
    · subst h0;cases h
    · omega
  · rename_i hc;exact absurd h hc
def peakV (n:Nat) (xs:List (Option Nat)) (b:Int) (ls:List AV):Int:=
  firstH (fun j=>eqS (xs.getD j none) (extP xs ls b n 0 n).2) n 0
theorem run_47' {n m N:Nat} {cs ls:List AV} {b:Int} (h:Flos n cs) (h':Lvs m ls) (hN:n+m+5020<N):
    (fsM mzO waysR N 12).call (List RLeaf) 47 [.ofB (.list n cs),.s (.agg [.b (.int .i64 b),.b (.list m ls)])] [] (resK [false,false])=
    some [.v (.int .i64 (skV (peakE n (fO cs) b m ls) (peakV n (fO cs) b ls))),.v (.int .i64 (skE (peakE n (fO cs) b m ls) (peakV n (fO cs) b ls)))]:=by
  rw [run_47]
  have hl:=h'.2.1
  have hm:=h'.1
  have hxl:=h.len
  have hcl:=h.2.2
  have hN0:0<N:=by omega
  simp only [shut_eq,guardO_dec,h,h',put2n',ints2n',firstNZ_2',and_self,if_true,condO_bne]
  change ite (peakE n (fO cs) b m ls=0) _ _=_
  by_cases h0:peakE n (fO cs) b m ls=0
  case neg=>
    unfold skV skE
    rw [if_neg h0,if_neg h0,if_neg h0]
    rfl
  rw [if_pos h0,h0]
  obtain ⟨A,rfl,hn0,hT⟩:=peak_zero hxl h0
  have hA1:=hT.one
  have hA2:=hT.most
  have hfew:=hT.few
  clear h0
  change _=seekA (firstH (fun j=>eqS ((fO cs).getD j none) (extP (fO cs) ls (A:Int) (n:Int) 0 (n:Int)).2) (n-0) 0)
  refine loopC_rule (fun k (r:Nat->List AV->Int->Int->Nat->List AV->Int->Nat->List AV->Nat->List AV->Int->Nat->List AV->Nat->List AV->Int->List (AV × AV × Nat)->Nat->Nat->List AV->Nat->List AV->Int->Option (List RLeaf))=>∀ (i:Nat) (E:List PE) (pc:List AV),i+k=m->InvE (lenL ls) (pvL ls) E i 0->
    r m ls (m:Int) (i:Int) (n) (cs) (A:Int) (m) (ls) (2) pc (A:Int) (m) (ls) (0) ([]) ((0:Int)) (encE 0 E) E.length (0) ([]) (n) (cs) (A:Int)=seekA (firstH (fun j=>eqS ((fO cs).getD j none) (extP (fO cs) ls (A:Int) (n:Int) 0 (n:Int)).2) (n-0) 0)) ?_ N m (by omega) 0 [] _ (by omega) InvE.nil
  intro k r ih i E pc hi hE
  by_cases hk:i<m
  · obtain ⟨q,ds,e1,e2,e3⟩:=h'.get hk
    have eL:=lvAt_of e1
    have p0:0<ls.length:=by omega
    have wi:IntKind.i64.wrap ((i:Int)+1)=((i+1:Nat):Int):=by rw [wrap64]<;>omega
    have hle:=e2.len
    have hdl:=e2.2.2
    have hq:lenL ls i=q:=by unfold lenL;rw [eL];omega
    have hfl:=(hT.lev i hk).finM
    rw [eL] at hfl
    simp only [condO_dec,guardO_dec,Int.ofNat_lt,hk,p0,if_true,Int.natCast_nonneg,true_and,and_true,Int.toNat_natCast,Nat.mul_one,e1,asList_list,bindO_ok]
    refine loopC_rule (fun k2 (r2:Int->Nat->List AV->Int->Int->Nat->List AV->Int->Int->Nat->List AV->Int->Nat->List AV->Nat->List AV->Int->Nat->List AV->Nat->List AV->Int->List (AV × AV × Nat)->Nat->Nat->List AV->Nat->List AV->Int->Option (List RLeaf))=>∀ (j:Nat) (E:List PE),j+k2=q->InvE (lenL ls) (pvL ls) E i j->
      r2 (i:Int) m ls (m:Int) (i:Int) q ds (q:Int) (j:Int) (n) (cs) (A:Int) (m) (ls) (2) pc (A:Int) (m) (ls) (0) ([]) ((0:Int)) (encE 0 E) E.length (0) ([]) (n) (cs) (A:Int)=seekA (firstH (fun j=>eqS ((fO cs).getD j none) (extP (fO cs) ls (A:Int) (n:Int) 0 (n:Int)).2) (n-0) 0)) ?_ N q (by omega) 0 E (by omega) hE
    intro k2 r2 ih2 j E hj hE
    by_cases hk2:j<q
    · have ge1:=e2.get (i:=2*j) (by omega)
      have ge2:=e2.get (i:=2*j+1) (by omega)
      have wj:IntKind.i64.wrap ((j:Int)+1)=((j+1:Nat):Int):=by rw [wrap64]<;>omega
      have q0:0<ds.length:=by omega
      have q1:(2*j+2<=ds.length)=True:=eq_true (by omega)
      have hcm:j*2=2*j:=by omega
      have f1:=finB_clean (hfl.get (i:=2*j) (by omega))
      have f2:=finB_clean (hfl.get (i:=2*j+1) (by omega))
      have hput:=put_node hE eL
      simp only [condO_dec,guardO_dec,Int.ofNat_lt,hk2,q0,q1,if_true,Int.natCast_nonneg,true_and,and_true,Int.toNat_natCast,hcm,ge1,ge2,bindO_ok,f1,f2,and_self,hput,wj]
      exact ih2 (k2-1) (by omega) (j+1) _ (by omega) hE.step
    · have:j=lenL ls i:=by omega
      subst this
      simp only [condO_dec,Int.ofNat_lt,hk2,if_false,wi]
      exact ih (k-1) (by omega) (i+1) E _ (by omega) hE.next
  have hik:i=m:=by omega
  simp only [condO_dec,Int.ofNat_lt,hk,if_false]
  rw [hik] at hE
  clear ih hi hk hik
  have hg0:=h.get (i:=0) (by omega)
  have hc0:0<cs.length:=by omega
  have hz0:(0:Int)<(n:Int):=by omega
  simp only [guardO_dec,hz0,hc0,Int.le_refl,and_self,if_true,hg0,bindO_ok]
  have hstart:Std (keyAt (fO cs)) (clean1 ((fO cs).getD 0 none)) (clean1 ((fO cs).getD 0 none)) 0 (max 0 (0+1)):=by
    exact Std.single (hT.fin.get (by omega))
  refine loopC_rule (fun k (r:Int->Nat->List AV->Int->Nat->List AV->Nat->List AV->Int->Nat->List AV->Nat->List AV->Nat->List AV->Int->List (AV × AV × Nat)->Nat->Nat->List AV->Nat->List AV->Int->Nat->List AV->Nat->List AV->Int->Nat->List AV->Int->Option Nat->Option Nat->Option Nat->Option Nat->Int->Int->Int->Int->Option (List RLeaf))=>∀ (at_:Nat) (p:Option Nat × Option Nat),0<=at_->at_<=n->n<at_+k->Std (keyAt (fO cs)) p.1 p.2 0 (max at_ (0+1))->
    r (at_:Int) ((n)) ((cs)) ((A:Int)) ((m)) ((ls)) ((2)) (pc) ((A:Int)) ((m)) ((ls)) ((0)) (([])) ((n)) ((cs)) ((A:Int)) ((encE 0 E)) (E.length) ((0)) (([])) ((n)) ((cs)) ((A:Int)) (0) ([]) ((n)) ((cs)) ((A:Int)) ((n)) ((cs)) ((A:Int)) (Option.some 0) (Option.some 0) p.1 p.2 ((A:Int)) ((↑(n):Int)) ((0:Int)) ((↑(n):Int))=seekA (firstH (fun j=>eqS ((fO cs).getD j none) ((extR (fO cs) ls (A:Int) (n:Int) (n:Int) k (at_:Int) p)).2) (n-0) 0)) ?_ N 4097 (by omega) 0 (clean1 ((fO cs).getD 0 none),clean1 ((fO cs).getD 0 none)) (by omega) (by omega) (by omega) hstart
  intro k r ih at_ p ha1 ha2 hk hp
  obtain ⟨k,rfl⟩:∃ k',k=k' + 1:=⟨k-1,by omega⟩
  try simp only [condO_dec]
  rw [extR]
  by_cases hlt:at_<n
  case neg=>
    have hnl:¬ ((at_:Int)<(n:Int)):=by omega
    rw [if_neg hnl]
    rw [if_neg hnl]
    have hp':Std (keyAt (fO cs)) p.1 p.2 0 n:=by
      have:=hp
      rwa [show max at_ (0+1)=n by omega] at this
    clear ih hp hnl hlt hk ha1 ha2 hstart
    refine loopC_rule (fun k (r:Int->Nat->List AV->Int->Nat->List AV->Nat->List AV->Int->Nat->List AV->Nat->List AV->Nat->List AV->Int->List (AV × AV × Nat)->Nat->Nat->List AV->Nat->List AV->Int->Nat->List AV->Nat->List AV->Int->Nat->List AV->Int->Option Nat->Option Nat->Option Nat->Option Nat->Int->Int->Int->Int->Option Nat->Nat->List AV->Int->Int->Int->Int->Int->Int->Option (List RLeaf))=>∀ (at_:Nat),0<=at_->at_<=n->n<at_+k->
      r (at_:Int) (((n))) (((cs))) (((A:Int))) (((m))) (((ls))) (((2))) ((pc)) (((A:Int))) (((m))) (((ls))) (((0))) ((([]))) (((n))) (((cs))) (((A:Int))) (((encE 0 E))) ((E.length)) (((0))) ((([]))) (((n))) (((cs))) (((A:Int))) ((0)) (([])) (((n))) (((cs))) (((A:Int))) (((n))) (((cs))) (((A:Int))) (p.1) (p.2) (p.1) (p.2) (((A:Int))) (((↑(n):Int))) (((0:Int))) (((↑(n):Int))) (p.2) (((n))) (((cs))) (((A:Int))) ((-1:Int)) (((A:Int))) ((↑((n)):Int)) ((0:Int)) ((↑((n)):Int))=seekA (firstH (fun j=>eqS ((fO cs).getD j none) p.2) (n-at_) at_)) ?_ N 4098 (by omega) 0 (by omega) (by omega) (by omega)
    intro k r ih at_ ha1 ha2 hk
    obtain ⟨k,rfl⟩:∃ k',k=k' + 1:=⟨k-1,by omega⟩
    try simp only [condO_dec]
    by_cases hlt:at_<n
    case neg=>
      have hnl:¬ ((at_:Int)<(n:Int)):=by omega
      rw [if_neg hnl,firstH_end (by omega)]
      rfl
    have hyl:(at_:Int)<(n:Int):=by omega
    rw [if_pos hyl]
    have hb:=best_start (a:=(A:Int)) (n:=(n:Int)) (to:=(n:Int)) (at_:=(at_:Int)) (by omega) (by omega) (by omega) (by omega) _ rfl
    have hnode:=start_node (A:=A) (n:=n) (at_:=at_) (to:=(n:Int))
    generalize hr:bestC (n:Int) (n:Int) (at_:Int) 14 0 (A:Int) (-1,(at_:Int),(at_:Int)+1)=res at hb hnode
    obtain ⟨_,hb1,hb2,_⟩:=hb
    have han:at_<n:=by omega
    have hc0:0<cs.length:=by omega
    have beg:∀ (L I X:Int),(L,I,X)=res->L>=0->IntKind.i64.wrap (IntKind.i64.wrap (I*(A:Int))*(2:Int) ^ min L.toNat 64)=(at_:Int):=by
      intro L I X e hL
      subst e
      exact node_begin (by omega) (by omega) han (by omega) hnode hL
    rw [←hxl] at hnode
    have fin:∀ (L I E':Int),(L,I,E')=res->∃ En:Nat,E'=(En:Int)/\at_<En/\En<=n/\(eqS (valN (fO cs) ls L I).2 p.2=false->∀ j,at_<=j->j<En->(fun j=>eqS ((fO cs).getD j none) p.2) j=false):=by
      intro L I E' e
      subst e
      obtain ⟨v1,v2,v3⟩:=val_std hT (by omega) hnode
      dsimp only at v1 v2 v3
      obtain ⟨En,rfl⟩:=Int.eq_ofNat_of_zero_le (show 0<=E' by omega)
      rw [Int.toNat_natCast] at v1
      exact ⟨En,rfl,by omega,by omega,no_eq hT.fin v1 hp' (by omega) (by omega)⟩
    have look:∀ (L I X:Int),(L,I,X)=res->finB (valN (fO cs) ls L I).1=true/\finB (valN (fO cs) ls L I).2=true/\((L<0/\I=(at_:Int)/\X=((at_+1:Nat):Int)/\valN (fO cs) ls L I=(clean1 ((fO cs).getD at_ none),clean1 ((fO cs).getD at_ none)))\/
        (¬ L<0/\mlook Tryz.prog 130 62 (.agg [.int .i64 L,.int .i64 I]) (encE 0 E)=some (true,.agg [.flo .f32 (valN (fO cs) ls L I).1,.flo .f32 (valN (fO cs) ls L I).2]))):=by
      intro L I X e
      subst e
      exact node_look hT hE hnode (by omega)
    have wat:IntKind.i64.wrap ((at_:Int)+1)=(at_:Int)+1:=wrap64 (by omega) (by omega)
    rw [wat]
    refine loopC_rule (fun mm (r2:Int->Int->Int->Int->Nat->List AV->Int->Nat->List AV->Nat->List AV->Int->Nat->List AV->Nat->List AV->Nat->List AV->Int->List (AV × AV × Nat)->Nat->Nat->List AV->Nat->List AV->Int->Nat->List AV->Nat->List AV->Int->Nat->List AV->Int->Option Nat->Option Nat->Option Nat->Option Nat->Int->Int->Int->Int->Option Nat->Nat->List AV->Int->Int->Int->Int->Int->Int->Int->Int->Option (List RLeaf))=>∀ (l s c1 c2 c3:Int),0<=l->l+mm<=13->1<=s->s<=8192->(n:Int)<s*2 ^ mm->bestC (n:Int) (n:Int) (at_:Int) (mm+1) l s (c1,c2,c3)=res->
      r2 (at_:Int) c3 l s ((((n)))) ((((cs)))) ((((A:Int)))) ((((m)))) ((((ls)))) ((((2)))) (((pc))) ((((A:Int)))) ((((m)))) ((((ls)))) ((((0)))) (((([])))) ((((n)))) ((((cs)))) ((((A:Int)))) ((((encE 0 E)))) (((E.length))) ((((0)))) (((([])))) ((((n)))) ((((cs)))) ((((A:Int)))) (((0))) ((([]))) ((((n)))) ((((cs)))) ((((A:Int)))) ((((n)))) ((((cs)))) ((((A:Int)))) ((p.1)) ((p.2)) ((p.1)) ((p.2)) ((((A:Int)))) ((((↑(n):Int)))) ((((0:Int)))) ((((↑(n):Int)))) ((p.2)) ((((n)))) ((((cs)))) ((((A:Int)))) (((-1:Int))) ((((A:Int)))) (((↑((n)):Int))) (((0:Int))) (((↑((n)):Int))) c1 c2=seekA (firstH (fun j=>eqS ((fO cs).getD j none) p.2) (n-at_) at_)) ?_ N 13 (by omega) 0 (A:Int) (-1) (at_:Int) ((at_:Int)+1) (by omega) (by omega) (by omega) (by omega) (by omega) hr
    intro mm r2 ih2 l s c1 c2 c3 hl0 hlm hs1 hs2 hsn hbe
    have w1:IntKind.i64.wrap ((at_:Int)+s)=(at_:Int)+s:=wrap64 (by omega) (by omega)
    have w2:IntKind.i64.wrap (l+1)=l+1:=wrap64 (by omega) (by omega)
    have w3:IntKind.i64.wrap (2*s)=2*s:=wrap64 (by omega) (by omega)
    have w4:(at_:Int).tmod s=(at_:Int)%s:=Int.tmod_eq_emod_of_nonneg (by omega)
    have w5:(at_:Int).tdiv s=(at_:Int) / s:=Int.tdiv_eq_ediv_of_nonneg (by omega)
    have w6:IntKind.i64.wrap ((at_:Int) / s)=(at_:Int) / s:=by
      have:=Int.ediv_le_self s (show (0:Int)<=(at_:Int) by omega)
      have:=Int.ediv_nonneg (show (0:Int)<=(at_:Int) by omega) (show 0<=s by omega)
      rw [wrap64 (by omega) (by omega)]
    have nz:(s≠0)=True:=eq_true (by omega)
    simp only [condO_dec,guardO_dec,nz,if_true,w1,w2,w3,w4,w5,w6,ite_min,condO_sf,bindO_ok]
    rw [bestC] at hbe
    by_cases hok:(at_:Int)%s=0/\min (n:Int) ((at_:Int)+s)<=(n:Int)
    · have e1:(((at_:Int)%s==0)&&decide (min (n:Int) ((at_:Int)+s)<=(n:Int)))=true:=by rw [hok.1,decide_eq_true hok.2];rfl
      rw [e1,condO_tx]
      rw [if_pos hok] at hbe
      by_cases hn:(n:Int)<=s
      · rw [if_pos hn] at hbe
        rw [if_pos (show s>=(n:Int) from hn)]
        obtain ⟨En,hEn,s1,s2,s3⟩:=fin _ _ _ hbe
        rw [hEn]
        have ih1:=ih k (by omega) En (by omega) (by omega) (by omega)
        have sz:En<9223372036854775808:=by omega
        have hbg:=beg _ _ _ hbe
        obtain ⟨g1,g2,⟨g3,g4,g6,g5⟩ | ⟨g3,g5⟩⟩:=look _ _ _ hbe
        · have hgF:=h.get (i:=at_) (by omega)
          have fz:=finB_clean (hT.fin.get (i:=at_) (by omega))
          have g7:¬ (l>=0):=by omega
          simp only [condO_dec,g3,g4,g7,if_true,if_false,guardO_dec,Int.natCast_nonneg,Int.ofNat_lt,han,hc0,and_self,Int.toNat_natCast,Nat.mul_one,hgF,bindO_ok,joinC_pos hN0,fz]
          by_cases hv:eqS (valN (fO cs) ls l ((at_:Int) / s)).2 p.2=true
          · have hv':=hv
            rw [g5] at hv'
            refine condO_f' (congrArg not hv') ?_
            refine loopC_rule (fun k3 (r3:Int->Int->Nat->List AV->Int->Nat->List AV->Nat->List AV->Int->Nat->List AV->Nat->List AV->Nat->List AV->Int->List (AV × AV × Nat)->Nat->Nat->List AV->Nat->List AV->Int->Nat->List AV->Nat->List AV->Int->Nat->List AV->Int->Option Nat->Option Nat->Option Nat->Option Nat->Int->Int->Int->Int->Option Nat->Nat->List AV->Int->Int->Int->Int->Int->Int->Int->Int->Int->Int->Option (List RLeaf))=>∀ (j:Nat) (y1 y2 y3 y4:Int),j+k3=En->
              r3 (En:Int) (j:Int) ((((n)))) ((((cs)))) ((((A:Int)))) ((((m)))) ((((ls)))) ((((2)))) (((pc))) ((((A:Int)))) ((((m)))) ((((ls)))) ((((0)))) (((([])))) ((((n)))) ((((cs)))) ((((A:Int)))) ((((encE 0 E)))) (((E.length))) ((((0)))) (((([])))) ((((n)))) ((((cs)))) ((((A:Int)))) (((0))) ((([]))) ((((n)))) ((((cs)))) ((((A:Int)))) ((((n)))) ((((cs)))) ((((A:Int)))) ((p.1)) ((p.2)) ((p.1)) ((p.2)) ((((A:Int)))) ((((↑(n):Int)))) ((((0:Int)))) ((((↑(n):Int)))) ((p.2)) ((((n)))) ((((cs)))) ((((A:Int)))) (((-1:Int))) ((((A:Int)))) (((↑((n)):Int))) (((0:Int))) (((↑((n)):Int))) y1 y2 y3 y4=seekA (firstH (fun j=>eqS ((fO cs).getD j none) p.2) (n-j) j)) ?_ N (En-at_) (by omega) at_ _ _ _ _ (by omega)
            intro k3 r3 ih3 j y1 y2 y3 y4 hj
            by_cases hk3:j<En
            · have hgj:=h.get (i:=j) (by omega)
              have hjn:j<n:=by omega
              have wj:IntKind.i64.wrap ((j:Int)+1)=((j+1:Nat):Int):=by rw [wrap64]<;>omega
              simp only [condO_dec,guardO_dec,Int.natCast_nonneg,Int.ofNat_lt,hk3,hjn,hc0,and_self,if_true,Int.toNat_natCast,Nat.mul_one,hgj,bindO_ok,wj]
              by_cases hp:(fun j=>eqS ((fO cs).getD j none) p.2) j=true
              · rw [firstH_hit hjn hp]
                exact condO_t' hp rfl
              · have hp:(fun j=>eqS ((fO cs).getD j none) p.2) j=false:=by simpa using hp
                rw [firstH_to (En:=j+1) (by omega) (by omega) (fun i a b=>by (have q:i=j:=by omega);subst q;exact hp)]
                exact condO_f' hp (ih3 (k3-1) (by omega) (j+1) _ _ _ _ (by omega))
            · have:j=En:=by omega
              subst this
              simp only [condO_dec,Int.ofNat_lt,hk3,if_false]
              exact ih1
          · have hv':eqS (valN (fO cs) ls l ((at_:Int) / s)).2 p.2=false:=by simpa using hv
            have hs:=firstH_to (p:=(fun j=>eqS ((fO cs).getD j none) p.2)) (Nat.le_of_lt s1) s2 (s3 hv')
            rw [g5] at hv'
            rw [hs]
            exact condO_t' (congrArg not hv') ih1
        · have g7:l>=0:=by omega
          have g8:=hbg g7
          simp only [condO_dec,g3,if_false,g5,bindO_ok,asAgg_agg,List.length_cons,List.length_nil,guardO_dec,if_true,List.getD_cons_zero,List.tail_cons,asF_flo,joinC_pos hN0,g7,g8,and_self]
          by_cases hv:eqS (valN (fO cs) ls l ((at_:Int) / s)).2 p.2=true
          · refine condO_f' (congrArg not hv) ?_
            refine loopC_rule (fun k3 (r3:Int->Int->Nat->List AV->Int->Nat->List AV->Nat->List AV->Int->Nat->List AV->Nat->List AV->Nat->List AV->Int->List (AV × AV × Nat)->Nat->Nat->List AV->Nat->List AV->Int->Nat->List AV->Nat->List AV->Int->Nat->List AV->Int->Option Nat->Option Nat->Option Nat->Option Nat->Int->Int->Int->Int->Option Nat->Nat->List AV->Int->Int->Int->Int->Int->Int->Int->Int->Int->Int->Option (List RLeaf))=>∀ (j:Nat) (y1 y2 y3 y4:Int),j+k3=En->
              r3 (En:Int) (j:Int) ((((n)))) ((((cs)))) ((((A:Int)))) ((((m)))) ((((ls)))) ((((2)))) (((pc))) ((((A:Int)))) ((((m)))) ((((ls)))) ((((0)))) (((([])))) ((((n)))) ((((cs)))) ((((A:Int)))) ((((encE 0 E)))) (((E.length))) ((((0)))) (((([])))) ((((n)))) ((((cs)))) ((((A:Int)))) (((0))) ((([]))) ((((n)))) ((((cs)))) ((((A:Int)))) ((((n)))) ((((cs)))) ((((A:Int)))) ((p.1)) ((p.2)) ((p.1)) ((p.2)) ((((A:Int)))) ((((↑(n):Int)))) ((((0:Int)))) ((((↑(n):Int)))) ((p.2)) ((((n)))) ((((cs)))) ((((A:Int)))) (((-1:Int))) ((((A:Int)))) (((↑((n)):Int))) (((0:Int))) (((↑((n)):Int))) y1 y2 y3 y4=seekA (firstH (fun j=>eqS ((fO cs).getD j none) p.2) (n-j) j)) ?_ N (En-at_) (by omega) at_ _ _ _ _ (by omega)
            intro k3 r3 ih3 j y1 y2 y3 y4 hj
            by_cases hk3:j<En
            · have hgj:=h.get (i:=j) (by omega)
              have hjn:j<n:=by omega
              have wj:IntKind.i64.wrap ((j:Int)+1)=((j+1:Nat):Int):=by rw [wrap64]<;>omega
              simp only [condO_dec,guardO_dec,Int.natCast_nonneg,Int.ofNat_lt,hk3,hjn,hc0,and_self,if_true,Int.toNat_natCast,Nat.mul_one,hgj,bindO_ok,wj]
              by_cases hp:(fun j=>eqS ((fO cs).getD j none) p.2) j=true
              · rw [firstH_hit hjn hp]
                exact condO_t' hp rfl
              · have hp:(fun j=>eqS ((fO cs).getD j none) p.2) j=false:=by simpa using hp
                rw [firstH_to (En:=j+1) (by omega) (by omega) (fun i a b=>by (have q:i=j:=by omega);subst q;exact hp)]
                exact condO_f' hp (ih3 (k3-1) (by omega) (j+1) _ _ _ _ (by omega))
            · have:j=En:=by omega
              subst this
              simp only [condO_dec,Int.ofNat_lt,hk3,if_false]
              exact ih1
          · have hv':eqS (valN (fO cs) ls l ((at_:Int) / s)).2 p.2=false:=by simpa using hv
            rw [firstH_to (p:=(fun j=>eqS ((fO cs).getD j none) p.2)) (Nat.le_of_lt s1) s2 (s3 hv')]
            exact condO_t' (congrArg not hv') ih1
      · rw [if_neg hn] at hbe
        rw [if_neg (show ¬ s>=(n:Int) from hn)]
        obtain ⟨mm,rfl⟩:∃ m',mm=m' + 1:=by
          cases mm with
          | zero=>omega
          | succ mm=>exact ⟨mm,rfl⟩
        refine ih2 mm (by omega) (l+1) (2*s) l ((at_:Int) / s) (min (n:Int) ((at_:Int)+s)) (by omega) (by omega) (by omega) (by omega) ?_ hbe
        rw [Int.pow_succ] at hsn;rw [Int.mul_comm 2 s,Int.mul_assoc,Int.mul_comm 2];exact hsn
    · have e1:(((at_:Int)%s==0)&&decide (min (n:Int) ((at_:Int)+s)<=(n:Int)))=false:=by
        rw [Bool.and_eq_false_iff]
        by_cases hz:(at_:Int)%s=0
        · exact .inr (decide_eq_false fun h=>hok ⟨hz,h⟩)
        · exact .inl (beq_eq_false_iff_ne.2 hz)
      rw [e1,condO_fx]
      rw [if_neg hok] at hbe
      obtain ⟨En,hEn,s1,s2,s3⟩:=fin _ _ _ hbe
      rw [hEn]
      have ih1:=ih k (by omega) En (by omega) (by omega) (by omega)
      have sz:En<9223372036854775808:=by omega
      have hbg:=beg _ _ _ hbe
      obtain ⟨g1,g2,⟨g3,g4,g6,g5⟩ | ⟨g3,g5⟩⟩:=look _ _ _ hbe
      · have hgF:=h.get (i:=at_) (by omega)
        have fz:=finB_clean (hT.fin.get (i:=at_) (by omega))
        have g7:¬ (c1>=0):=by omega
        simp only [condO_dec,g3,g4,g7,if_true,if_false,guardO_dec,Int.natCast_nonneg,Int.ofNat_lt,han,hc0,and_self,Int.toNat_natCast,Nat.mul_one,hgF,bindO_ok,joinC_pos hN0,fz]
        by_cases hv:eqS (valN (fO cs) ls c1 c2).2 p.2=true
        · have hv':=hv
          rw [g5] at hv'
          refine condO_f' (congrArg not hv') ?_
          refine loopC_rule (fun k3 (r3:Int->Int->Nat->List AV->Int->Nat->List AV->Nat->List AV->Int->Nat->List AV->Nat->List AV->Nat->List AV->Int->List (AV × AV × Nat)->Nat->Nat->List AV->Nat->List AV->Int->Nat->List AV->Nat->List AV->Int->Nat->List AV->Int->Option Nat->Option Nat->Option Nat->Option Nat->Int->Int->Int->Int->Option Nat->Nat->List AV->Int->Int->Int->Int->Int->Int->Int->Int->Int->Int->Option (List RLeaf))=>∀ (j:Nat) (y1 y2 y3 y4:Int),j+k3=En->
            r3 (En:Int) (j:Int) ((((n)))) ((((cs)))) ((((A:Int)))) ((((m)))) ((((ls)))) ((((2)))) (((pc))) ((((A:Int)))) ((((m)))) ((((ls)))) ((((0)))) (((([])))) ((((n)))) ((((cs)))) ((((A:Int)))) ((((encE 0 E)))) (((E.length))) ((((0)))) (((([])))) ((((n)))) ((((cs)))) ((((A:Int)))) (((0))) ((([]))) ((((n)))) ((((cs)))) ((((A:Int)))) ((((n)))) ((((cs)))) ((((A:Int)))) ((p.1)) ((p.2)) ((p.1)) ((p.2)) ((((A:Int)))) ((((↑(n):Int)))) ((((0:Int)))) ((((↑(n):Int)))) ((p.2)) ((((n)))) ((((cs)))) ((((A:Int)))) (((-1:Int))) ((((A:Int)))) (((↑((n)):Int))) (((0:Int))) (((↑((n)):Int))) y1 y2 y3 y4=seekA (firstH (fun j=>eqS ((fO cs).getD j none) p.2) (n-j) j)) ?_ N (En-at_) (by omega) at_ _ _ _ _ (by omega)
          intro k3 r3 ih3 j y1 y2 y3 y4 hj
          by_cases hk3:j<En
          · have hgj:=h.get (i:=j) (by omega)
            have hjn:j<n:=by omega
            have wj:IntKind.i64.wrap ((j:Int)+1)=((j+1:Nat):Int):=by rw [wrap64]<;>omega
            simp only [condO_dec,guardO_dec,Int.natCast_nonneg,Int.ofNat_lt,hk3,hjn,hc0,and_self,if_true,Int.toNat_natCast,Nat.mul_one,hgj,bindO_ok,wj]
            by_cases hp:(fun j=>eqS ((fO cs).getD j none) p.2) j=true
            · rw [firstH_hit hjn hp]
              exact condO_t' hp rfl
            · have hp:(fun j=>eqS ((fO cs).getD j none) p.2) j=false:=by simpa using hp
              rw [firstH_to (En:=j+1) (by omega) (by omega) (fun i a b=>by (have q:i=j:=by omega);subst q;exact hp)]
              exact condO_f' hp (ih3 (k3-1) (by omega) (j+1) _ _ _ _ (by omega))
          · have:j=En:=by omega
            subst this
            simp only [condO_dec,Int.ofNat_lt,hk3,if_false]
            exact ih1
        · have hv':eqS (valN (fO cs) ls c1 c2).2 p.2=false:=by simpa using hv
          have hs:=firstH_to (p:=(fun j=>eqS ((fO cs).getD j none) p.2)) (Nat.le_of_lt s1) s2 (s3 hv')
          rw [g5] at hv'
          rw [hs]
          exact condO_t' (congrArg not hv') ih1
      · have g7:c1>=0:=by omega
        have g8:=hbg g7
        simp only [condO_dec,g3,if_false,g5,bindO_ok,asAgg_agg,List.length_cons,List.length_nil,guardO_dec,if_true,List.getD_cons_zero,List.tail_cons,asF_flo,joinC_pos hN0,g7,g8,and_self]
        by_cases hv:eqS (valN (fO cs) ls c1 c2).2 p.2=true
        · refine condO_f' (congrArg not hv) ?_
          refine loopC_rule (fun k3 (r3:Int->Int->Nat->List AV->Int->Nat->List AV->Nat->List AV->Int->Nat->List AV->Nat->List AV->Nat->List AV->Int->List (AV × AV × Nat)->Nat->Nat->List AV->Nat->List AV->Int->Nat->List AV->Nat->List AV->Int->Nat->List AV->Int->Option Nat->Option Nat->Option Nat->Option Nat->Int->Int->Int->Int->Option Nat->Nat->List AV->Int->Int->Int->Int->Int->Int->Int->Int->Int->Int->Option (List RLeaf))=>∀ (j:Nat) (y1 y2 y3 y4:Int),j+k3=En->
            r3 (En:Int) (j:Int) ((((n)))) ((((cs)))) ((((A:Int)))) ((((m)))) ((((ls)))) ((((2)))) (((pc))) ((((A:Int)))) ((((m)))) ((((ls)))) ((((0)))) (((([])))) ((((n)))) ((((cs)))) ((((A:Int)))) ((((encE 0 E)))) (((E.length))) ((((0)))) (((([])))) ((((n)))) ((((cs)))) ((((A:Int)))) (((0))) ((([]))) ((((n)))) ((((cs)))) ((((A:Int)))) ((((n)))) ((((cs)))) ((((A:Int)))) ((p.1)) ((p.2)) ((p.1)) ((p.2)) ((((A:Int)))) ((((↑(n):Int)))) ((((0:Int)))) ((((↑(n):Int)))) ((p.2)) ((((n)))) ((((cs)))) ((((A:Int)))) (((-1:Int))) ((((A:Int)))) (((↑((n)):Int))) (((0:Int))) (((↑((n)):Int))) y1 y2 y3 y4=seekA (firstH (fun j=>eqS ((fO cs).getD j none) p.2) (n-j) j)) ?_ N (En-at_) (by omega) at_ _ _ _ _ (by omega)
          intro k3 r3 ih3 j y1 y2 y3 y4 hj
          by_cases hk3:j<En
          · have hgj:=h.get (i:=j) (by omega)
            have hjn:j<n:=by omega
            have wj:IntKind.i64.wrap ((j:Int)+1)=((j+1:Nat):Int):=by rw [wrap64]<;>omega
            simp only [condO_dec,guardO_dec,Int.natCast_nonneg,Int.ofNat_lt,hk3,hjn,hc0,and_self,if_true,Int.toNat_natCast,Nat.mul_one,hgj,bindO_ok,wj]
            by_cases hp:(fun j=>eqS ((fO cs).getD j none) p.2) j=true
            · rw [firstH_hit hjn hp]
              exact condO_t' hp rfl
            · have hp:(fun j=>eqS ((fO cs).getD j none) p.2) j=false:=by simpa using hp
              rw [firstH_to (En:=j+1) (by omega) (by omega) (fun i a b=>by (have q:i=j:=by omega);subst q;exact hp)]
              exact condO_f' hp (ih3 (k3-1) (by omega) (j+1) _ _ _ _ (by omega))
          · have:j=En:=by omega
            subst this
            simp only [condO_dec,Int.ofNat_lt,hk3,if_false]
            exact ih1
        · have hv':eqS (valN (fO cs) ls c1 c2).2 p.2=false:=by simpa using hv
          rw [firstH_to (p:=(fun j=>eqS ((fO cs).getD j none) p.2)) (Nat.le_of_lt s1) s2 (s3 hv')]
          exact condO_t' (congrArg not hv') ih1
  have hyl:(at_:Int)<(n:Int):=by omega
  rw [if_pos hyl]
  rw [if_pos hyl]
  have hb:=best_start (a:=(A:Int)) (n:=(n:Int)) (to:=(n:Int)) (at_:=(at_:Int)) (by omega) (by omega) (by omega) (by omega) _ rfl
  have hnode:=start_node (A:=A) (n:=n) (at_:=at_) (to:=(n:Int))
  generalize hr:bestC (n:Int) (n:Int) (at_:Int) 14 0 (A:Int) (-1,(at_:Int),(at_:Int)+1)=res at hb hnode ⊢
  obtain ⟨_,hb1,hb2,_⟩:=hb
  have han:at_<n:=by omega
  rw [←hxl] at hnode
  have fin:∀ (L I E':Int),(L,I,E')=res->∃ En:Nat,E'=(En:Int)/\at_<En/\En<=n/\Std (keyAt (fO cs)) (minO p.1 (valN (fO cs) ls L I).1) (maxO p.2 (valN (fO cs) ls L I).2) 0 (max En (0+1)):=by
    intro L I E' e
    subst e
    exact node_step hT hnode ha1 hlt (by omega) hb2 hp
  have look:∀ (L I X:Int),(L,I,X)=res->finB (valN (fO cs) ls L I).1=true/\finB (valN (fO cs) ls L I).2=true/\((L<0/\I=(at_:Int)/\X=((at_+1:Nat):Int)/\valN (fO cs) ls L I=(clean1 ((fO cs).getD at_ none),clean1 ((fO cs).getD at_ none)))\/
      (¬ L<0/\mlook Tryz.prog 130 62 (.agg [.int .i64 L,.int .i64 I]) (encE 0 E)=some (true,.agg [.flo .f32 (valN (fO cs) ls L I).1,.flo .f32 (valN (fO cs) ls L I).2]))):=by
    intro L I X e
    subst e
    exact node_look hT hE hnode (by omega)
  have wat:IntKind.i64.wrap ((at_:Int)+1)=(at_:Int)+1:=wrap64 (by omega) (by omega)
  rw [wat]
  refine loopC_rule (fun mm (r2:Int->Int->Int->Int->Nat->List AV->Int->Nat->List AV->Nat->List AV->Int->Nat->List AV->Nat->List AV->Nat->List AV->Int->List (AV × AV × Nat)->Nat->Nat->List AV->Nat->List AV->Int->Nat->List AV->Nat->List AV->Int->Nat->List AV->Int->Option Nat->Option Nat->Option Nat->Option Nat->Int->Int->Int->Int->Int->Int->Option (List RLeaf))=>∀ (l s c1 c2 c3:Int),0<=l->l+mm<=13->1<=s->s<=8192->(n:Int)<s*2 ^ mm->bestC (n:Int) (n:Int) (at_:Int) (mm+1) l s (c1,c2,c3)=res->
    r2 (at_:Int) c3 l s (((n))) (((cs))) (((A:Int))) (((m))) (((ls))) (((2))) ((pc)) (((A:Int))) (((m))) (((ls))) (((0))) ((([]))) (((n))) (((cs))) (((A:Int))) (((encE 0 E))) ((E.length)) (((0))) ((([]))) (((n))) (((cs))) (((A:Int))) ((0)) (([])) (((n))) (((cs))) (((A:Int))) (((n))) (((cs))) (((A:Int))) ((Option.some 0)) ((Option.some 0)) (p.1) (p.2) (((A:Int))) (((↑(n):Int))) (((0:Int))) (((↑(n):Int))) c1 c2=seekA (firstH (fun j=>eqS ((fO cs).getD j none) ((extR (fO cs) ls (A:Int) (n:Int) (n:Int) k res.2.2 (minO p.1 (valN (fO cs) ls res.1 res.2.1).1,maxO p.2 (valN (fO cs) ls res.1 res.2.1).2))).2) (n-0) 0)) ?_ N 13 (by omega) 0 (A:Int) (-1) (at_:Int) ((at_:Int)+1) (by omega) (by omega) (by omega) (by omega) (by omega) hr
  intro mm r2 ih2 l s c1 c2 c3 hl0 hlm hs1 hs2 hsn hbe
  have w1:IntKind.i64.wrap ((at_:Int)+s)=(at_:Int)+s:=wrap64 (by omega) (by omega)
  have w2:IntKind.i64.wrap (l+1)=l+1:=wrap64 (by omega) (by omega)
  have w3:IntKind.i64.wrap (2*s)=2*s:=wrap64 (by omega) (by omega)
  have w4:(at_:Int).tmod s=(at_:Int)%s:=Int.tmod_eq_emod_of_nonneg (by omega)
  have w5:(at_:Int).tdiv s=(at_:Int) / s:=Int.tdiv_eq_ediv_of_nonneg (by omega)
  have w6:IntKind.i64.wrap ((at_:Int) / s)=(at_:Int) / s:=by
    have:=Int.ediv_le_self s (show (0:Int)<=(at_:Int) by omega)
    have:=Int.ediv_nonneg (show (0:Int)<=(at_:Int) by omega) (show 0<=s by omega)
    rw [wrap64 (by omega) (by omega)]
  have nz:(s≠0)=True:=eq_true (by omega)
  simp only [condO_dec,guardO_dec,nz,if_true,w1,w2,w3,w4,w5,w6,ite_min,condO_sf,bindO_ok]
  rw [bestC] at hbe
  by_cases hok:(at_:Int)%s=0/\min (n:Int) ((at_:Int)+s)<=(n:Int)
  · have e1:(((at_:Int)%s==0)&&decide (min (n:Int) ((at_:Int)+s)<=(n:Int)))=true:=by rw [hok.1,decide_eq_true hok.2];rfl
    rw [e1,condO_tx]
    rw [if_pos hok] at hbe
    by_cases hn:(n:Int)<=s
    · rw [if_pos hn] at hbe
      rw [if_pos (show s>=(n:Int) from hn),←hbe]
      obtain ⟨En,hEn,s1,s2,s3⟩:=fin _ _ _ hbe
      rw [hEn]
      have ih1:=ih k (by omega) En (minO p.1 (valN (fO cs) ls l ((at_:Int) / s)).1,maxO p.2 (valN (fO cs) ls l ((at_:Int) / s)).2) (by omega) (by omega) (by omega) s3
      have sz:En<9223372036854775808:=by omega
      obtain ⟨g1,g2,⟨g3,g4,g6,g5⟩ | ⟨g3,g5⟩⟩:=look _ _ _ hbe
      · rw [g5] at ih1
        have hgF:=h.get (i:=at_) (by omega)
        have hc0:0<cs.length:=by omega
        have fz:=finB_clean (hT.fin.get (i:=at_) (by omega))
        simp only [condO_dec,g3,g4,if_true,guardO_dec,Int.natCast_nonneg,Int.ofNat_lt,han,hc0,and_self,Int.toNat_natCast,Nat.mul_one,hgF,bindO_ok,hp.1,hp.2.1,fz]
        rw [g4] at g5
        rw [g5]
        exact ih1
      · simp only [condO_dec,g3,if_false,g5,bindO_ok,asAgg_agg,List.length_cons,List.length_nil,guardO_dec,if_true,List.getD_cons_zero,List.tail_cons,asF_flo,hp.1,hp.2.1,g1,g2,and_self]
        exact ih1
    · rw [if_neg hn] at hbe
      rw [if_neg (show ¬ s>=(n:Int) from hn)]
      obtain ⟨mm,rfl⟩:∃ m',mm=m' + 1:=by
        cases mm with
        | zero=>omega
        | succ mm=>exact ⟨mm,rfl⟩
      refine ih2 mm (by omega) (l+1) (2*s) l ((at_:Int) / s) (min (n:Int) ((at_:Int)+s)) (by omega) (by omega) (by omega) (by omega) ?_ hbe
      rw [Int.pow_succ] at hsn;rw [Int.mul_comm 2 s,Int.mul_assoc,Int.mul_comm 2];exact hsn
  · have e1:(((at_:Int)%s==0)&&decide (min (n:Int) ((at_:Int)+s)<=(n:Int)))=false:=by
      rw [Bool.and_eq_false_iff]
      by_cases hz:(at_:Int)%s=0
      · exact .inr (decide_eq_false fun h=>hok ⟨hz,h⟩)
      · exact .inl (beq_eq_false_iff_ne.2 hz)
    rw [e1,condO_fx]
    rw [if_neg hok] at hbe
    rw [←hbe]
    obtain ⟨En,hEn,s1,s2,s3⟩:=fin _ _ _ hbe
    rw [hEn]
    have ih1:=ih k (by omega) En (minO p.1 (valN (fO cs) ls c1 c2).1,maxO p.2 (valN (fO cs) ls c1 c2).2) (by omega) (by omega) (by omega) s3
    have sz:En<9223372036854775808:=by omega
    obtain ⟨g1,g2,⟨g3,g4,g6,g5⟩ | ⟨g3,g5⟩⟩:=look _ _ _ hbe
    · rw [g5] at ih1
      have hgF:=h.get (i:=at_) (by omega)
      have hc0:0<cs.length:=by omega
      have fz:=finB_clean (hT.fin.get (i:=at_) (by omega))
      simp only [condO_dec,g3,g4,if_true,guardO_dec,Int.natCast_nonneg,Int.ofNat_lt,han,hc0,and_self,Int.toNat_natCast,Nat.mul_one,hgF,bindO_ok,hp.1,hp.2.1,fz]
      rw [g4] at g5
      rw [g5]
      exact ih1
    · simp only [condO_dec,g3,if_false,g5,bindO_ok,asAgg_agg,List.length_cons,List.length_nil,guardO_dec,if_true,List.getD_cons_zero,List.tail_cons,asF_flo,hp.1,hp.2.1,g1,g2,and_self]
      exact ih1
end Go.Abs
end
set_option maxRecDepth 100000
noncomputable section
namespace Go.Abs
open Go.Proofs Classical
def eFirstA:Ent:=fun args' R K=>match args' with
 | [.list n cs,.agg [.int .i64 b,.list m ls],.int .i64 f,.flo .f32 o]=>gO (S_ (decide (Flos n cs/\Lvs m ls))) (K [.v (.int .i64 (S_ ((skV (seekE n (fO cs) b m ls f o) (firstH (fun j=>geS ((fO cs).getD j none) o) (n-f.toNat) f.toNat))))),.v (.int .i64 (S_ ((skE (seekE n (fO cs) b m ls f o) (firstH (fun j=>geS ((fO cs).getD j none) o) (n-f.toNat) f.toNat)))))])
 | _=>none
theorem eFirstA_45:EntOk Tryz.prog 45 eFirstA:=by
 intro args' R K r ha h
 unfold eFirstA at h
 split at h
 ·rename_i n cs b m ls f o
  obtain ⟨h1,h2⟩:=guardO_some h
  rw [shut_eq] at h1
  have h1':=of_decide_eq_true h1
  refine ⟨[.v (.int .i64 ((skV (seekE n (fO cs) b m ls f o) (firstH (fun j=>geS ((fO cs).getD j none) o) (n-f.toNat) f.toNat)))),.v (.int .i64 ((skE (seekE n (fO cs) b m ls f o) (firstH (fun j=>geS ((fO cs).getD j none) o) (n-f.toNat) f.toNat))))],fun _ _=>by simp only [eFirstA,shut_eq,decide_eq_true h1',gO],?_,con_of mzO_ok (W:=waysR) (N:=n+m+5021) (k:=12) (ms:=[false,false]) ?_ ha trivial⟩
  ·intro l hl;rcases List.mem_cons.1 hl with rfl | hl
   ·exact leaf_int
   rcases List.mem_cons.1 hl with rfl | hl
   ·exact leaf_int
   cases hl
  ·exact run_45' h1'.1 h1'.2 (by omega)
 ·cases h
def eRise:Ent:=fun args' R K=>match args' with
 | [.list n cs,.agg [.int .i64 b,.list m ls],.int .i64 f,.flo .f32 o]=>gO (S_ (decide (Flos n cs/\Lvs m ls))) (K [.v (.int .i64 (S_ ((skV (seekE n (fO cs) b m ls f o) (firstH (riseS (fO cs) o) (n-f.toNat) f.toNat))))),.v (.int .i64 (S_ ((skE (seekE n (fO cs) b m ls f o) (firstH (riseS (fO cs) o) (n-f.toNat) f.toNat)))))])
 | _=>none
theorem eRise_46:EntOk Tryz.prog 46 eRise:=by
 intro args' R K r ha h
 unfold eRise at h
 split at h
 ·rename_i n cs b m ls f o
  obtain ⟨h1,h2⟩:=guardO_some h
  rw [shut_eq] at h1
  have h1':=of_decide_eq_true h1
  refine ⟨[.v (.int .i64 ((skV (seekE n (fO cs) b m ls f o) (firstH (riseS (fO cs) o) (n-f.toNat) f.toNat)))),.v (.int .i64 ((skE (seekE n (fO cs) b m ls f o) (firstH (riseS (fO cs) o) (n-f.toNat) f.toNat))))],fun _ _=>by simp only [eRise,shut_eq,decide_eq_true h1',gO],?_,con_of mzO_ok (W:=waysR) (N:=n+m+5021) (k:=12) (ms:=[false,false]) ?_ ha trivial⟩
  ·intro l hl;rcases List.mem_cons.1 hl with rfl | hl
   ·exact leaf_int
   rcases List.mem_cons.1 hl with rfl | hl
   ·exact leaf_int
   cases hl
  ·exact run_46' h1'.1 h1'.2 (by omega)
 ·cases h
def ePeak:Ent:=fun args' R K=>match args' with
 | [.list n cs,.agg [.int .i64 b,.list m ls]]=>gO (S_ (decide (Flos n cs/\Lvs m ls))) (K [.v (.int .i64 (S_ ((skV (peakE n (fO cs) b m ls) (peakV n (fO cs) b ls))))),.v (.int .i64 (S_ ((skE (peakE n (fO cs) b m ls) (peakV n (fO cs) b ls)))))])
 | _=>none
theorem ePeak_47:EntOk Tryz.prog 47 ePeak:=by
 intro args' R K r ha h
 unfold ePeak at h
 split at h
 ·rename_i n cs b m ls
  obtain ⟨h1,h2⟩:=guardO_some h
  rw [shut_eq] at h1
  have h1':=of_decide_eq_true h1
  refine ⟨[.v (.int .i64 ((skV (peakE n (fO cs) b m ls) (peakV n (fO cs) b ls)))),.v (.int .i64 ((skE (peakE n (fO cs) b m ls) (peakV n (fO cs) b ls))))],fun _ _=>by simp only [ePeak,shut_eq,decide_eq_true h1',gO],?_,con_of mzO_ok (W:=waysR) (N:=n+m+5021) (k:=12) (ms:=[false,false]) ?_ ha trivial⟩
  ·intro l hl;rcases List.mem_cons.1 hl with rfl | hl
   ·exact leaf_int
   rcases List.mem_cons.1 hl with rfl | hl
   ·exact leaf_int
   cases hl
  ·exact run_47' h1'.1 h1'.2 (by omega)
 ·cases h
def mzU:List (FuncId × Ent):=(45,eFirstA)::(46,eRise)::(47,ePeak)::mzO
theorem mzU_ok:TabLOk Tryz.prog mzU:=⟨eFirstA_45,eRise_46,ePeak_47,mzO_ok⟩
end Go.Abs
end
set_option maxRecDepth 100000
noncomputable section
namespace Go.Abs
open Go.Proofs Classical
def ePeakR:Ent:=fun args' R K=>match args' with
 | [.list n cs]=>gO (S_ (decide (Flos n cs))) (K [.v (.int .i64 (S_ ((peakR (fO cs) n 0 0:Nat))))])
 | _=>none
theorem ePeakR_48:EntOk Tryz.prog 48 ePeakR:=by
 intro args' R K r ha h
 unfold ePeakR at h
 split at h
 ·rename_i n cs
  obtain ⟨h1,h2⟩:=guardO_some h
  rw [shut_eq] at h1
  have h1':=of_decide_eq_true h1
  refine ⟨[.v (.int .i64 ((peakR (fO cs) n 0 0:Nat)))],fun _ _=>by simp only [ePeakR,shut_eq,decide_eq_true h1',gO],?_,con_of mzO_ok (W:=waysQ) (N:=n+1) (k:=12) (ms:=[false]) ?_ ha trivial⟩
  ·intro l hl;rcases List.mem_cons.1 hl with rfl | hl
   ·exact leaf_int
   cases hl
  ·exact run_48' h1'
 ·cases h
def eNextR:Ent:=fun args' R K=>match args' with
 | [.list n cs,.int .i64 f,.flo .f32 o]=>gO (S_ (decide (Flos n cs/\0<=f))) (K [.v (.int .i64 (S_ ((firstH (fun j=>geS ((fO cs).getD j none) o) (n-f.toNat) f.toNat))))])
 | _=>none
theorem eNextR_51:EntOk Tryz.prog 51 eNextR:=by
 intro args' R K r ha h
 unfold eNextR at h
 split at h
 ·rename_i n cs f o
  obtain ⟨h1,h2⟩:=guardO_some h
  rw [shut_eq] at h1
  have h1':=of_decide_eq_true h1
  refine ⟨[.v (.int .i64 ((firstH (fun j=>geS ((fO cs).getD j none) o) (n-f.toNat) f.toNat)))],fun _ _=>by simp only [eNextR,shut_eq,decide_eq_true h1',gO],?_,con_of mzO_ok (W:=waysQ) (N:=n+1) (k:=12) (ms:=[false]) ?_ ha trivial⟩
  ·intro l hl;rcases List.mem_cons.1 hl with rfl | hl
   ·exact leaf_int
   cases hl
  ·exact run_51' h1'.1 h1'.2
 ·cases h
def eEdgeR:Ent:=fun args' R K=>match args' with
 | [.list n cs,.int .i64 f,.flo .f32 o]=>gO (S_ (decide (Flos n cs/\0<=f))) (K [.v (.int .i64 (S_ ((firstH (riseS (fO cs) o) (n-f.toNat) f.toNat))))])
 | _=>none
theorem eEdgeR_52:EntOk Tryz.prog 52 eEdgeR:=by
 intro args' R K r ha h
 unfold eEdgeR at h
 split at h
 ·rename_i n cs f o
  obtain ⟨h1,h2⟩:=guardO_some h
  rw [shut_eq] at h1
  have h1':=of_decide_eq_true h1
  refine ⟨[.v (.int .i64 ((firstH (riseS (fO cs) o) (n-f.toNat) f.toNat)))],fun _ _=>by simp only [eEdgeR,shut_eq,decide_eq_true h1',gO],?_,con_of mzO_ok (W:=waysQ) (N:=n+1) (k:=12) (ms:=[false]) ?_ ha trivial⟩
  ·intro l hl;rcases List.mem_cons.1 hl with rfl | hl
   ·exact leaf_int
   cases hl
  ·exact run_52' h1'.1 h1'.2
 ·cases h
def mzV:List (FuncId × Ent):=(48,ePeakR)::(51,eNextR)::(52,eEdgeR)::mzU
theorem mzV_ok:TabLOk Tryz.prog mzV:=⟨ePeakR_48,eNextR_51,eEdgeR_52,mzU_ok⟩
end Go.Abs
end
