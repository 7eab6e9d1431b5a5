/- Part 25 of the library of the proof: an abstract run of the program. -/
import Derived.Test.YtkloadomnblkeaaGreatDoorHt22
import Derived.Test.YtkloadomnblkeaaGreatDoorHt24
set_option linter.unusedVariables false
set_option linter.unusedSimpArgs false

noncomputable section
namespace Go.Abs
open Go.Proofs Classical
def yh:fr:=fun ai R K=>match ai with
 | [.list n cs]=>gO (S_ (decide (bu n cs/\0<n))) (K [.v (.agg [.aL .f32 (S_ (gK .lt ((fO cs).getD 0 none) (fO cs))),.aL .f32 (S_ (gK .gt ((fO cs).getD 0 none) (fO cs)))])])
 | _=>none
theorem JW:bG Tryz.prog 38 yh:=by
 intro ai R K r ha h
 unfold yh at h
 split at h
 ·rename_i n cs
  obtain ⟨h1,h2⟩:=aD h
  rw [ab] at h1
  have bM:=of_decide_eq_true h1
  refine ⟨[.v (.agg [.aL .f32 (gK .lt ((fO cs).getD 0 none) (fO cs)),.aL .f32 (gK .gt ((fO cs).getD 0 none) (fO cs))])],fun _ _=>by simp only [yh,ab,decide_eq_true bM,gO],?_,bf oQ (W:=aK) (N:=n+1) (k:=12) (ms:=[false]) ?_ ha trivial⟩
  ·intro l hl;rcases List.mem_cons.1 hl with rfl | hl
   ·exact (j_ (tC _ _))
   cases hl
  ·exact Uc bM.1 bM.2
 ·cases h
def tT:fr:=fun ai R K=>match ai with
 | [.list n cs,.aL .f32 o]=>gO (S_ (decide (bu n cs))) (K [.v (.agg [.int .i64 (S_ (((gX n (fO cs) o).1:Int))),.int .i64 (S_ (((gX n (fO cs) o).2:Int)))]),.v (.int .i64 (S_ (oO n (fO cs) o)))])
 | _=>none
theorem Hb:bG Tryz.prog 53 tT:=by
 intro ai R K r ha h
 unfold tT at h
 split at h
 ·rename_i n cs o
  obtain ⟨h1,h2⟩:=aD h
  rw [ab] at h1
  have bM:=of_decide_eq_true h1
  refine ⟨[.v (.agg [.int .i64 (((gX n (fO cs) o).1:Int)),.int .i64 (((gX n (fO cs) o).2:Int))]),.v (.int .i64 (oO n (fO cs) o))],fun _ _=>by simp only [tT,ab,decide_eq_true bM,gO],?_,bf oQ (W:=aK) (N:=n+1) (k:=12) (ms:=[false,false]) ?_ ha trivial⟩
  ·intro l hl;rcases List.mem_cons.1 hl with rfl | hl
   ·exact (j_ (PM _ _))
   rcases List.mem_cons.1 hl with rfl | hl
   ·exact bh
   cases hl
  ·exact T_ bM
 ·cases h
def LD:fr:=fun ai R K=>match ai with
 | [.list n cs,.list m ds]=>gO (S_ (decide (bu n cs/\bu m ds))) (K [.fz (S_ ((eF n (fO cs) m (fO ds)).length)) (S_ (cF .i64 (eF n (fO cs) m (fO ds)))),.v (.int .i64 (S_ (qO n (fO cs) m (fO ds))))])
 | _=>none
theorem Q':bG Tryz.prog 54 LD:=by
 intro ai R K r ha h
 unfold LD at h
 split at h
 ·rename_i n cs m ds
  obtain ⟨h1,h2⟩:=aD h
  rw [ab] at h1
  have bM:=of_decide_eq_true h1
  refine ⟨[.fz ((eF n (fO cs) m (fO ds)).length) (cF .i64 (eF n (fO cs) m (fO ds))),.v (.int .i64 (qO n (fO cs) m (fO ds)))],fun _ _=>by simp only [LD,ab,decide_eq_true bM,gO],?_,bf oQ (W:=aK) (N:=n+m+2) (k:=12) (ms:=[true,false]) ?_ ha ⟨oJ,trivial⟩⟩
  ·intro l hl;rcases List.mem_cons.1 hl with rfl | hl
   ·exact (pZ (oJ))
   rcases List.mem_cons.1 hl with rfl | hl
   ·exact bh
   cases hl
  ·exact Ua bM.1 bM.2
 ·cases h
end Go.Abs
end
noncomputable section
namespace Go.Abs
open Go.Proofs Classical
def EJ:fr:=fun ai R K=>match ai with
 | [.list n cs]=>gO (S_ (decide (bu (2*n) cs/\n<=100000))) (K [.fz (S_ (n)) (S_ (cs))])
 | _=>none
theorem NL:bG Tryz.prog 44 EJ:=by
 intro ai R K r ha h
 unfold EJ at h
 split at h
 ·rename_i n cs
  obtain ⟨h1,h2⟩:=aD h
  rw [ab] at h1
  have bM:=of_decide_eq_true h1
  refine ⟨[.fz (n) (cs)],fun _ _=>by simp only [EJ,ab,decide_eq_true bM,gO],?_,bf Ra (W:=aK) (N:=n+1) (k:=12) (ms:=[true]) ?_ ha ⟨(oS bM.1),trivial⟩⟩
  ·intro l hl;rcases List.mem_cons.1 hl with rfl | hl
   ·exact (pZ ((oS bM.1)))
   cases hl
  ·exact Up bM.1 bM.2
 ·cases h
def H8:List (FuncId × fr):=(44,EJ)::(38,yh)::mzJ
theorem o5:eZ Tryz.prog H8:=⟨NL,JW,Ra⟩
end Go.Abs
end
