/- Part 43 of the library of the proof: an abstract run of the program. -/
import Derived.Test.YtkloadomnblkeaaGreatDoorAp10
import Derived.Test.YtkloadomnblkeaaGreatDoorAp31
set_option linter.unusedVariables false
set_option linter.unusedSimpArgs false

noncomputable section
namespace Go.Abs
open Go.Proofs Classical Go.RowKit
theorem prs_of {x:AV} (h:ShR (.sl [.flo .f32,.flo .f32]) x):∃ k cs,x=AV.list k cs/\cs=(fO cs).map (AV.flo .f32)/\cs.length=2*k:=by
 cases h with
 | sl es n els hn hl he hv=>
  refine ⟨n,els.flatten,rfl,?_,by rw [flat_len he,hl];simp [Nat.mul_comm]⟩
  have:∀ x∈els.flatten,AV.flo .f32 (toF x)=x:=by
   intro x hx
   obtain ⟨e,h1,h2⟩:=List.mem_flatten.1 hx
   have hle:=he e h1
   obtain ⟨j,hj,hxe⟩:=List.mem_iff_getElem.1 h2
   have hj2:j<2:=by rw [hle] at hj;exact hj
   have hs:([Sh.flo .f32,Sh.flo .f32])[j]?=some (Sh.flo .f32):=by
    match j,hj2 with
    | 0,_=>rfl
    | 1,_=>rfl
   have:=hv e h1 j _ x hs (by rw [List.getElem?_eq_getElem hj,hxe])
   cases this with
   | flo k o h=>rfl
  unfold fO
  rw [List.map_map]
  exact (List.map_congr_left (g:=id) this |>.trans (List.map_id _)).symm
theorem lvsw_of {x:AV} (h:ShR (.sl [.sl [.flo .f32,.flo .f32]]) x):∃ m ls,x=.list m ls/\LvsW m ls:=by
 cases h with
 | sl es n els hn hl he hv=>
  refine ⟨n,els.flatten,rfl,by rw [flat_len he];simp [hl],fun c hc=>?_⟩
  exact prs_of (hv [c] (ShR.flat1 he hc) 0 _ c rfl rfl)
theorem tree_of {xs:List AV} (h:ShRs [.int .i64,.sl [.sl [.flo .f32,.flo .f32]]] xs):∃ b m ls,xs=[.int .i64 b,.list m ls]/\LvsW m ls:=by
 match xs,h.1 with
 | [x0,x1],_=>
  have h0:=h.2 0 _ x0 rfl rfl
  obtain ⟨m,ls,rfl,h1⟩:=lvsw_of (h.2 1 _ x1 rfl rfl)
  cases h0
  exact ⟨_,m,ls,rfl,h1⟩
end Go.Abs
end
