/- Part 33 of the library that the proof of the statement uses: an abstract run of the program, proved right, and what its functions give. -/
import Derived.Test.YtkloadomnblkeaaGreatDoorSr24
import Derived.Test.YtkloadomnblkeaaGreatDoorSr29
import Derived.Test.YtkloadomnblkeaaGreatDoorSr32
set_option linter.unusedVariables false
set_option linter.unusedSimpArgs false

set_option maxRecDepth 100000
noncomputable section
namespace Go.Abs
open Go.Proofs Classical
theorem run_21 (N:Nat) (n:Nat) (cs:List AV):(fsM mzC waysP N 12).call (List RLeaf) 21 [.ofB (.list n cs)] [] (resK [true])=(
 gO (S_ (decide (cs.length=n*1)))<|
 gO (S_ (decide ((0+n)*5<=549755813888)))<|
 some ([RLeaf.fz (0+n) (zrow (ofV (Go.Value.float Go.FloatKind.f32 0)).cells 0++cs)])):=by kernel_rfl
theorem flos_plain {n:Nat} {cs:List AV} (h:Flos n cs):∀ c∈cs,PlainC c:=by
 rw [h.2.1];exact flosL_plain
theorem run_21' {n:Nat} {cs:List AV} (h:Flos n cs) (hn:n<=100000000):(fsM mzC waysP 1 12).call (List RLeaf) 21 [.ofB (.list n cs)] [] (resK [true])=some [.fz n cs]:=by
 rw [run_21]
 have hl:=h.2.2
 have g1:(cs.length=n*1)=True:=eq_true (by omega)
 have g2:(n*5<=549755813888)=True:=eq_true (by omega)
 simp only [shut_eq,guardO_dec,g1,g2,if_true,Nat.zero_add]
 rfl
def eCopyF:Ent:=fun args' R K=>match args' with
 | [.list n cs]=>gO (S_ (decide (Flos n cs/\n<=100000000))) (K [.fz (S_ (n)) (S_ (cs))])
 | _=>none
theorem eCopyF_21:EntOk Tryz.prog 21 eCopyF:=by
 intro args' R K r ha h
 unfold eCopyF at h
 split at h
 ·rename_i n cs
  obtain ⟨h1,h2⟩:=guardO_some h
  rw [shut_eq] at h1
  have h1':=of_decide_eq_true h1
  refine ⟨[.fz (n) (cs)],fun _ _=>by simp only [eCopyF,shut_eq,decide_eq_true h1',gO],?_,con_of mzC_ok (W:=waysP) (N:=1) (k:=12) (ms:=[true]) ?_ ha ⟨(flos_plain h1'.1),trivial⟩⟩
  ·intro l hl;rcases List.mem_cons.1 hl with rfl | hl
   ·exact (leaf_fz ((flos_plain h1'.1)))
   cases hl
  ·exact run_21' h1'.1 h1'.2
 ·cases h
end Go.Abs
end
noncomputable section
namespace Go.Abs
open Go.Proofs Classical
def mzO:List (FuncId × Ent):=(19,eAwake)::(21,eCopyF)::mzN
theorem mzO_ok:TabLOk Tryz.prog mzO:=⟨eAwake_19,eCopyF_21,mzN_ok⟩
end Go.Abs
end
