/- Part 9 of the library of the proof: an abstract run of the program. -/
import Derived.Test.YtkloadomnblkeaaGreatDoorAp8
import Derived.Laws.Externs
import Derived.KernelRfl
import Derived.Test.YtkloadomnblkeaaGreatDoorProg
set_option linter.unusedVariables false
set_option linter.unusedSimpArgs false

noncomputable section
namespace Go.Abs
open Go.Proofs
theorem tryz_orders:Tryz.prog.follows .mixedOrders=true:=by kernel_rfl
theorem tryz_noNumB:noNumB Tryz.prog.funcs.toList=true:=by kernel_rfl
theorem tryz_noNum:NoNum Tryz.prog:=fun g fn hg hb=>noNumB_spec _ tryz_noNumB g fn (by simpa using hg) hb
def sub64E:Array Value->Sem Value:=fun args=>do
 let (x, y, b) ← Extern.MathBitsCarry.three "Sub64" args
 pure (Extern.MathBitsCarry.pair ((x+Extern.MathBitsCarry.m64-y-b)%Extern.MathBitsCarry.m64) (if x<y+b then 1 else 0))
theorem run_sub64E {P:Program} (x y b:Nat) (hb:b<=1) (w:World):(sub64E #[.int .u64 x,.int .u64 y,.int .u64 b]).run P w=
  .ok (.tuple #[.int .u64 (((x+18446744073709551616-y-b)%18446744073709551616:Nat):Int),.int .u64 ((if x<y+b then 1 else 0:Nat):Int)]) w:=by
 have:b=0\/b=1:=by omega
 rcases this with rfl | rfl<;>rfl
def tryzExt (g:FuncId) (args:List AV):Option AV:=
 match Nat.beq g 210 with
 | true=>match args with
  | [.int .u64 x,.int .u64 y,.int .u64 c]=>if 0<=x/\0<=y/\0<=c/\c<=1 then some (.tuple [.int .u64 ((x+y+c)%18446744073709551616),.int .u64 ((x+y+c) / 18446744073709551616)]) else none
  | _=>none
 | false=>match Nat.beq g 243 with
  | true=>match args with
   | [.int .u64 (.ofNat x),.int .u64 (.ofNat y),.int .u64 (.ofNat c)]=>
    if c<=1 then some (.tuple [.int .u64 (((x+18446744073709551616-y-c)%18446744073709551616:Nat):Int),.int .u64 ((if x<y+c then 1 else 0:Nat):Int)]) else none
   | _=>none
  | false=>match Nat.beq g 256 with
   | true=>match args with
    | [.string s,.int .u8 c]=>some (.int .i64 (firstIdx s c.toNat.toUInt8))
    | _=>none
   | false=>none
theorem tryz_ext:ExtOk Tryz.prog tryzExt:=by
 intro g args y h E w args' hA
 unfold tryzExt at h
 split at h
 ·rename_i hg
  have:=nat_beq hg;subst this
  split at h
  ·rename_i x y' c
   split at h
   ·rename_i hc
    simp only [Option.some.injEq] at h;subst h
    have:=ints3 hA;subst this
    refine ⟨_,?_,tuple2_rel _ _ _⟩
    rw [run_callFunc_extern (fn:=Tryz.f210) (e:=add64Entry) (by kernel_rfl) (by kernel_rfl) (by kernel_rfl) (by kernel_rfl) (by kernel_rfl),run_add64 x y' c hc.1 hc.2.1 hc.2.2.1 hc.2.2.2]
    rfl
   ·cases h
  ·cases h
 ·split at h
  ·rename_i hg
   have:=nat_beq hg;subst this
   split at h
   ·rename_i x y' c
    split at h
    ·rename_i hc
     simp only [Option.some.injEq] at h;subst h
     have:=ints3 hA;subst this
     refine ⟨_,?_,tuple2_rel _ _ _⟩
     have hr:=run_sub64E (P:=Tryz.prog) x y' c hc w
     rw [run_callFunc_extern (fn:=Tryz.f243) (e:=sub64E) (by kernel_rfl) (by kernel_rfl) (by kernel_rfl) (by kernel_rfl) (by kernel_rfl)]
     have hr2:(sub64E #[.int .u64 (Int.ofNat x),.int .u64 (Int.ofNat y'),.int .u64 (Int.ofNat c)]).run Tryz.prog w=_:=hr
     rw [hr2]
     rfl
    ·cases h
   ·cases h
  ·split at h
   ·rename_i hg
    have:=nat_beq hg;subst this
    split at h
    ·rename_i s c
     simp only [Option.some.injEq] at h;subst h
     have hargs:args'=#[.string s,.int .u8 c]:=by
      obtain ⟨l⟩:=args'
      match l,hA with
      | [a,b],hA=>
       have h0:=hA.2 0 _ _ rfl rfl
       have h1:=hA.2 1 _ _ rfl rfl
       cases h0;cases h1;rfl
      | [],hA=>exact absurd hA.1 (by simp)
      | [_],hA=>exact absurd hA.1 (by simp)
      | _::_::_::_,hA=>exact absurd hA.1 (by simp)
     subst hargs
     refine ⟨_,?_,.int _ _⟩
     rw [run_callFunc_extern (fn:=Tryz.f256) (e:=Extern.BytealgIndexByte.indexByte) (by kernel_rfl) (by kernel_rfl) (by kernel_rfl) (by kernel_rfl) (by kernel_rfl),run_indexByte_string]
     rfl
    ·cases h
   ·cases h
end Go.Abs
end
