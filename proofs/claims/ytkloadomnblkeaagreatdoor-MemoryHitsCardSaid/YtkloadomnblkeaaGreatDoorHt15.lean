/- Part 15 of the library of the proof: an abstract run of the program. -/
import Derived.Test.YtkloadomnblkeaaGreatDoorHt13
import Derived.Test.YtkloadomnblkeaaGreatDoorHt14
set_option linter.unusedVariables false
set_option linter.unusedSimpArgs false

noncomputable section
namespace Go.Abs
open Classical Go.Abs.Fin
def gJ (a b:Option Nat):Option Nat:=(wU .f32 .f32 a b).getD none
def gV (a b:Option Nat):Option Nat:=(wV .f32 .f32 a b).getD none
theorem oH {a b:Option Nat} (ha:aJ a=true) (hb:aJ b=true):wU .f32 .f32 a b=some (gJ a b)/\aJ (gJ a b)=true/\aU (gJ a b)=min (aU a) (aU b):=by
 obtain ⟨x,s,m,i,rfl,hx⟩:=u6 ha
 obtain ⟨y,t,n,j,rfl,hy⟩:=u6 hb
 have ho:Go.FloatKind.f32.format.order x y=some (compare (aU (some x)) (aU (some y))):=tB ha hb
 have e:wU .f32 .f32 (some x) (some y)=(match compare (aU (some x)) (aU (some y)) with | .lt=>some (some x) | .gt=>some (some y) | .eq=>some (if (Go.FloatKind.f32.decode x).neg then some x else some y)):=by
  unfold wU CL
  simp only [ho]
  cases compare (aU (some x)) (aU (some y)) with
  | lt=>rfl
  | gt=>rfl
  | eq=>simp only [decide_true];split<;>rfl
 unfold gJ
 rcases Int.lt_trichotomy (aU (some x)) (aU (some y)) with h | h | h
 ·rw [Int.compare_eq_lt.2 h] at e
  rw [e];exact ⟨rfl,ha,by show aU (some x)=_;omega⟩
 ·rw [Int.compare_eq_eq.2 h] at e
  simp only at e
  rw [e]
  refine ⟨rfl,?_,?_⟩
  ·show aJ (if _ then some x else some y)=true
   split
   ·exact ha
   ·exact hb
  ·show aU (if _ then some x else some y)=_
   split<;>omega
 ·rw [Int.compare_eq_gt.2 h] at e
  rw [e];exact ⟨rfl,hb,by show aU (some y)=_;omega⟩
theorem oI {a b:Option Nat} (ha:aJ a=true) (hb:aJ b=true):wV .f32 .f32 a b=some (gV a b)/\aJ (gV a b)=true/\aU (gV a b)=max (aU a) (aU b):=by
 obtain ⟨x,s,m,i,rfl,hx⟩:=u6 ha
 obtain ⟨y,t,n,j,rfl,hy⟩:=u6 hb
 have ho:Go.FloatKind.f32.format.order x y=some (compare (aU (some x)) (aU (some y))):=tB ha hb
 have e:wV .f32 .f32 (some x) (some y)=(match compare (aU (some x)) (aU (some y)) with | .lt=>some (some y) | .gt=>some (some x) | .eq=>some (if (Go.FloatKind.f32.decode x).neg then some y else some x)):=by
  unfold wV CJ
  simp only [ho]
  cases compare (aU (some x)) (aU (some y)) with
  | lt=>rfl
  | gt=>rfl
  | eq=>simp only [decide_true];split<;>rfl
 unfold gV
 rcases Int.lt_trichotomy (aU (some x)) (aU (some y)) with h | h | h
 ·rw [Int.compare_eq_lt.2 h] at e
  rw [e];exact ⟨rfl,hb,by show aU (some y)=_;omega⟩
 ·rw [Int.compare_eq_eq.2 h] at e
  simp only at e
  rw [e]
  refine ⟨rfl,?_,?_⟩
  ·show aJ (if _ then some y else some x)=true
   split
   ·exact hb
   ·exact ha
  ·show aU (if _ then some y else some x)=_
   split<;>omega
 ·rw [Int.compare_eq_gt.2 h] at e
  rw [e];exact ⟨rfl,ha,by show aU (some x)=_;omega⟩
theorem bn {o:Option Nat} (h:aJ o=true):aJ (az o)=true:=by
 unfold az
 split
 ·decide +kernel
 ·exact h
end Go.Abs
end
set_option maxRecDepth 100000
noncomputable section
namespace Go.Abs
open Go.Proofs Classical Go.Abs.Fin
theorem Ui (N:Nat) (o:Option Nat):(dA FE aK N 12).call (List aa) 129 [.aT (.aL .f32 o)] [] (bp [false])=(
 some ([aa.v (AV.agg [AV.aL Go.FloatKind.f32 (S_ (az o)),AV.aL Go.FloatKind.f32 (S_ (az o))])])):=by kernel_rfl
theorem Uj (N:Nat) (a b c d:Option Nat):(dA FE aK N 12).call (List aa) 130 [.s (.agg [.b (.aL .f32 a),.b (.aL .f32 b)]),.s (.agg [.b (.aL .f32 c),.b (.aL .f32 d)])] [] (bp [false])=(
 bO (wU Go.FloatKind.f32 Go.FloatKind.f32 a c) fun v0=>
 bO (wV Go.FloatKind.f32 Go.FloatKind.f32 b d) fun v1=>
 some ([aa.v (AV.agg [AV.aL Go.FloatKind.f32 v0,AV.aL Go.FloatKind.f32 v1])])):=by kernel_rfl
theorem Uk (N:Nat) (a b:Option Nat):(dA FE aK N 12).call (List aa) 132 [.s (.agg [.b (.aL .f32 a),.b (.aL .f32 b)])] [] (bp [false])=(
 some ([aa.v (AV.agg [AV.aL Go.FloatKind.f32 a,AV.aL Go.FloatKind.f32 b])])):=by kernel_rfl
theorem P6 {o:Option Nat}:(dA FE aK 1 12).call (List aa) 129 [.aT (.aL .f32 o)] [] (bp [false])=some [.v (.agg [.aL .f32 (az o),.aL .f32 (az o)])]:=by
 rw [Ui];simp only [ab]
theorem P7 {a b:Option Nat}:(dA FE aK 1 12).call (List aa) 132 [.s (.agg [.b (.aL .f32 a),.b (.aL .f32 b)])] [] (bp [false])=some [.v (.agg [.aL .f32 a,.aL .f32 b])]:=Uk 1 a b
theorem P8 {a b c d:Option Nat} (ha:aJ a=true) (hb:aJ b=true) (hc:aJ c=true) (hd:aJ d=true):
  (dA FE aK 1 12).call (List aa) 130 [.s (.agg [.b (.aL .f32 a),.b (.aL .f32 b)]),.s (.agg [.b (.aL .f32 c),.b (.aL .f32 d)])] [] (bp [false])=some [.v (.agg [.aL .f32 (gJ a c),.aL .f32 (gV b d)])]:=by
 rw [Uj];simp only [(oH ha hc).1,(oI hb hd).1,ak]
def yd:fr:=fun ai R K=>match ai with
 | [.aL .f32 o]=>K [.v (.agg [.aL .f32 (S_ (az o)),.aL .f32 (S_ (az o))])]
 | _=>none
theorem GG:bG Tryz.prog 129 yd:=by
 intro ai R K r ha h
 unfold yd at h
 split at h
 ·rename_i o
  refine ⟨[.v (.agg [.aL .f32 (az o),.aL .f32 (az o)])],fun _ _=>by simp only [yd,ab],?_,bf oQ (W:=aK) (N:=1) (k:=12) (ms:=[false]) ?_ ha trivial⟩
  ·intro l hl;rcases List.mem_cons.1 hl with rfl | hl
   ·exact (j_ (tC _ _))
   cases hl
  ·exact P6
 ·cases h
def Ek:fr:=fun ai R K=>match ai with
 | [.agg [.aL .f32 a,.aL .f32 b]]=>K [.v (.agg [.aL .f32 (S_ (a)),.aL .f32 (S_ (b))])]
 | _=>none
theorem Jm:bG Tryz.prog 132 Ek:=by
 intro ai R K r ha h
 unfold Ek at h
 split at h
 ·rename_i a b
  refine ⟨[.v (.agg [.aL .f32 (a),.aL .f32 (b)])],fun _ _=>by simp only [Ek,ab],?_,bf oQ (W:=aK) (N:=1) (k:=12) (ms:=[false]) ?_ ha trivial⟩
  ·intro l hl;rcases List.mem_cons.1 hl with rfl | hl
   ·exact (j_ (tC _ _))
   cases hl
  ·exact P7
 ·cases h
def El:fr:=fun ai R K=>match ai with
 | [.agg [.aL .f32 a,.aL .f32 b],.agg [.aL .f32 c,.aL .f32 d]]=>gO (S_ (decide (aJ a=true/\aJ b=true/\aJ c=true/\aJ d=true))) (K [.v (.agg [.aL .f32 (S_ (gJ a c)),.aL .f32 (S_ (gV b d))])])
 | _=>none
theorem Jn:bG Tryz.prog 130 El:=by
 intro ai R K r ha h
 unfold El at h
 split at h
 ·rename_i a b c d
  obtain ⟨h1,h2⟩:=aD h
  rw [ab] at h1
  have bM:=of_decide_eq_true h1
  refine ⟨[.v (.agg [.aL .f32 (gJ a c),.aL .f32 (gV b d)])],fun _ _=>by simp only [El,ab,decide_eq_true bM,gO],?_,bf oQ (W:=aK) (N:=1) (k:=12) (ms:=[false]) ?_ ha trivial⟩
  ·intro l hl;rcases List.mem_cons.1 hl with rfl | hl
   ·exact (j_ (tC _ _))
   cases hl
  ·exact P8 bM.1 bM.2.1 bM.2.2.1 bM.2.2.2
 ·cases h
def V3:List (FuncId × fr):=(129,yd)::(132,Ek)::(130,El)::FE
theorem Jo:eZ Tryz.prog V3:=⟨GG,Jm,Jn,oQ⟩
end Go.Abs
end
