/- Part 34 of the library of the proof: an abstract run of the program. -/
import Derived.Test.YtkloadomnblkeaaGreatDoorHt24
import Derived.Test.YtkloadomnblkeaaGreatDoorHt30
import Derived.Test.YtkloadomnblkeaaGreatDoorHt33
set_option linter.unusedVariables false
set_option linter.unusedSimpArgs false

set_option maxRecDepth 100000
noncomputable section
namespace Go.Abs
open Go.Proofs Classical
theorem XS (N:Nat) (n:Nat) (cs:List AV):(dA FE aK N 12).call (List aa) 21 [.aT (.list n cs)] [] (bp [true])=(
 gO (S_ (decide (cs.length=n*1)))<|
 gO (S_ (decide ((0+n)*5<=549755813888)))<|
 some ([aa.fz (0+n) (aX (cM (Go.Value.float Go.FloatKind.f32 0)).cells 0++cs)])):=by kernel_rfl
theorem zM {n:Nat} {cs:List AV} (h:bu n cs):∀ c∈cs,eY c:=by
 rw [h.2.1];exact fF
theorem Uh {n:Nat} {cs:List AV} (h:bu n cs) (hn:n<=100000000):(dA FE aK 1 12).call (List aa) 21 [.aT (.list n cs)] [] (bp [true])=some [.fz n cs]:=by
 rw [XS]
 have hl:=h.2.2
 have g1:(cs.length=n*1)=True:=eq_true (by omega)
 have g2:(n*5<=549755813888)=True:=eq_true (by omega)
 simp only [ab,aj,g1,g2,if_true,Nat.zero_add]
 rfl
def Ej:fr:=fun ai R K=>match ai with
 | [.list n cs]=>gO (S_ (decide (bu n cs/\n<=100000000))) (K [.fz (S_ (n)) (S_ (cs))])
 | _=>none
theorem Nq:bG Tryz.prog 21 Ej:=by
 intro ai R K r ha h
 unfold Ej at h
 split at h
 ·rename_i n cs
  obtain ⟨h1,h2⟩:=aD h
  rw [ab] at h1
  have bM:=of_decide_eq_true h1
  refine ⟨[.fz (n) (cs)],fun _ _=>by simp only [Ej,ab,decide_eq_true bM,gO],?_,bf oQ (W:=aK) (N:=1) (k:=12) (ms:=[true]) ?_ ha ⟨(zM bM.1),trivial⟩⟩
  ·intro l hl;rcases List.mem_cons.1 hl with rfl | hl
   ·exact (pZ ((zM bM.1)))
   cases hl
  ·exact Uh bM.1 bM.2
 ·cases h
end Go.Abs
end
noncomputable section
namespace Go.Abs
open Go.Proofs Classical
def Lp:List (FuncId × fr):=(19,Jg)::(21,Ej)::mzN
theorem sE:eZ Tryz.prog Lp:=⟨M6,Nq,aau⟩
end Go.Abs
end
