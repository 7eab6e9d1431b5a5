/- Part 38 of the library of the proof: an abstract run of the program. -/
import Derived.Test.YtkloadomnblkeaaGreatDoorAp26
import Derived.Test.YtkloadomnblkeaaGreatDoorAp31
import Derived.Test.YtkloadomnblkeaaGreatDoorAp34
import Derived.Test.YtkloadomnblkeaaGreatDoorAp37
set_option linter.unusedVariables false
set_option linter.unusedSimpArgs false

set_option maxRecDepth 100000
noncomputable section
namespace Go.Abs
open Go.Proofs Classical
theorem run_21 (N:Nat) (n:Nat) (cs:List AV):(fsM mzC waysP N 12).call (List RLeaf) 21 [.ofB (.list n cs)] [] (resK [true])=(
 gO (S_ (decide (cs.length=n*1)))<|
 gO (S_ (decide ((0+n)*5<=549755813888)))<|
 some ([RLeaf.fz (0+n) (zrow (ofV (Go.Value.float Go.FloatKind.f32 0)).cells 0++cs)])):=by kernel_rfl
theorem flos_plain {n:Nat} {cs:List AV} (h:Flos n cs):∀ c∈cs,PlainC c:=by
 rw [h.2.1];exact flosL_plain
theorem run_21' {n:Nat} {cs:List AV} (h:Flos n cs) (hn:n<=100000000):(fsM mzC waysP 1 12).call (List RLeaf) 21 [.ofB (.list n cs)] [] (resK [true])=some [.fz n cs]:=by
 rw [run_21]
 have hl:=h.2.2
 have g1:(cs.length=n*1)=True:=eq_true (by omega)
 have g2:(n*5<=549755813888)=True:=eq_true (by omega)
 simp only [shut_eq,guardO_dec,g1,g2,if_true,Nat.zero_add]
 rfl
def eCopyF:Ent:=fun args' R K=>match args' with
 | [.list n cs]=>gO (S_ (decide (Flos n cs/\n<=100000000))) (K [.fz (S_ (n)) (S_ (cs))])
 | _=>none
theorem eCopyF_21:EntOk Tryz.prog 21 eCopyF:=by
 intro args' R K r ha h
 unfold eCopyF at h
 split at h
 ·rename_i n cs
  obtain ⟨h1,h2⟩:=guardO_some h
  rw [shut_eq] at h1
  have h1':=of_decide_eq_true h1
  refine ⟨[.fz (n) (cs)],fun _ _=>by simp only [eCopyF,shut_eq,decide_eq_true h1',gO],?_,con_of mzC_ok (W:=waysP) (N:=1) (k:=12) (ms:=[true]) ?_ ha ⟨(flos_plain h1'.1),trivial⟩⟩
  ·intro l hl;rcases List.mem_cons.1 hl with rfl | hl
   ·exact (leaf_fz ((flos_plain h1'.1)))
   cases hl
  ·exact run_21' h1'.1 h1'.2
 ·cases h
end Go.Abs
end
set_option maxRecDepth 100000
noncomputable section
namespace Go.Abs
open Go.Proofs Classical
def eAppend:Ent:=fun args' R K=>match args' with
 | [.list n cs,.agg [.int .i64 b,.list m ls],.list q ds]=>gO (S_ (decide (Flos n cs/\Lvs m ls/\Flos q ds))) (K [.fz (S_ ((appV n (fO cs) b m ls q (fO ds)).1.length)) (S_ (flosL (appV n (fO cs) b m ls q (fO ds)).1)),.v (.agg [.int .i64 (S_ ((appV n (fO cs) b m ls q (fO ds)).2.1)),.list (S_ ((appV n (fO cs) b m ls q (fO ds)).2.2.length)) (S_ (lvCells (appV n (fO cs) b m ls q (fO ds)).2.2))]),.v (.int .i64 (S_ (appE n (fO cs) b m ls q (fO ds))))])
 | _=>none
theorem eAppend_79:EntOk Tryz.prog 79 eAppend:=by
 intro args' R K r ha h
 unfold eAppend at h
 split at h
 ·rename_i n cs b m ls q ds
  obtain ⟨h1,h2⟩:=guardO_some h
  rw [shut_eq] at h1
  have h1':=of_decide_eq_true h1
  refine ⟨[.fz ((appV n (fO cs) b m ls q (fO ds)).1.length) (flosL (appV n (fO cs) b m ls q (fO ds)).1),.v (.agg [.int .i64 ((appV n (fO cs) b m ls q (fO ds)).2.1),.list ((appV n (fO cs) b m ls q (fO ds)).2.2.length) (lvCells (appV n (fO cs) b m ls q (fO ds)).2.2)]),.v (.int .i64 (appE n (fO cs) b m ls q (fO ds)))],fun _ _=>by simp only [eAppend,shut_eq,decide_eq_true h1',gO],?_,con_of mzAp_ok (W:=waysQ) (N:=n+q+21) (k:=12) (ms:=[true,false,false]) ?_ ha ⟨flosL_plain,trivial⟩⟩
  ·intro l hl;rcases List.mem_cons.1 hl with rfl | hl
   ·exact (leaf_fz (flosL_plain))
   rcases List.mem_cons.1 hl with rfl | hl
   ·exact (leaf_pyr _)
   rcases List.mem_cons.1 hl with rfl | hl
   ·exact leaf_int
   cases hl
  ·exact run_79' h1'.1 h1'.2.1 h1'.2.2 (by omega)
 ·cases h
def mzAq:List (FuncId × Ent):=(19,eAwake)::(21,eCopyF)::(79,eAppend)::(18,eShortT)::(29,eChkT)::(27,eChkT)::(25,eSameT)::(26,eTree)::(28,eTree)::mzK
theorem mzAq_ok:TabLOk Tryz.prog mzAq:=⟨eAwake_19,eCopyF_21,eAppend_79,eShortT_18,eChkT_29,eChkT_27,eSameT_25,eTree_26,eTree_28,mzK_ok⟩
end Go.Abs
end
