/- FnAddrReads: functions as plain Lean, in the machine of values. -/
import Derived.Test.YtpheniajdbbphaaDoorVFnAddrReads2
namespace Go.Proofs.YtpheniajdbbphaaDoor.DI
open Go
set_option linter.unusedVariables false
/-! impl.PrefixText -/
noncomputable def impl_PrefixText.c : Code := bodyOf Tryd.f8
def impl_PrefixText.h : Nat → Hint := look ⟨[], [], []⟩ []
def impl_PrefixText.ps : List PK := [.agg 2]
def impl_PrefixText.rs : List RK := [.one true, .one true]
def impl_PrefixText.vs : List ResultVar := [.tmp 2, .tmp 3]
def impl_PrefixText.x : Cx := ⟨tt, look none [(10, some impl_PrefixOk.K), (12, some impl_AddrText.K), (26, some impl_Decimal.K)]⟩
def impl_PrefixText.f (k : Nat) (a0_0 : Int) (a0_1 : Int) : Option (ByteArray × Bool) :=
  (impl_PrefixOk.f k a0_0 a0_1).bind fun r1 => (bif (!r1) then some (ByteArray.empty, false) else (impl_AddrText.f k a0_0).bind fun r2 => (bif decide (r2.size + (⟨#[47]⟩ : ByteArray).size ≤ 140737488351232) then (impl_Decimal.f k a0_1).bind fun r3 => (bif decide ((r2 ++ (⟨#[47]⟩ : ByteArray)).size + r3.size ≤ 140737488351232) then some (((r2 ++ (⟨#[47]⟩ : ByteArray)) ++ r3), true) else none) else none))
def impl_PrefixText.K : Ctr := ⟨impl_PrefixText.ps, impl_PrefixText.rs, false, (.two (.int .i64) (.int .i64)), (.two .str .bool), fun k x => impl_PrefixText.f k x.1 x.2⟩
theorem impl_PrefixText.eq (k : Nat) (x : (impl_PrefixText.K.I).den) : func impl_PrefixText.x impl_PrefixText.h impl_PrefixText.ps impl_PrefixText.rs impl_PrefixText.vs impl_PrefixText.K.I impl_PrefixText.K.O impl_PrefixText.c k x = impl_PrefixText.K.run k x := by
  show _ = impl_PrefixText.f k x.1 x.2
  kernel_rfl
theorem impl_PrefixText.ok : CtrOk Tryd.prog 8 impl_PrefixText.K :=
  CtrOk.of (fn := Tryd.f8) (cd := impl_PrefixText.c) (cx := impl_PrefixText.x) (hs := impl_PrefixText.h) (by kernel_rfl) (by kernel_rfl) (by kernel_rfl) (by kernel_rfl) tt_ok (envOk_cons impl_PrefixOk.ok (envOk_cons impl_AddrText.ok (envOk_cons impl_Decimal.ok (envOk_nil)))) (by kernel_rfl) (by kernel_rfl) (by kernel_rfl) (by kernel_rfl) fun k x r h => (impl_PrefixText.eq k x).trans h
/-! laws.FnAddrReads -/
noncomputable def laws_FnAddrReads.c : Code := bodyOf Tryd.f5
def laws_FnAddrReads.h : Nat → Hint := look ⟨[], [], []⟩ []
def laws_FnAddrReads.ps : List PK := [.one]
def laws_FnAddrReads.rs : List RK := [.one true]
def laws_FnAddrReads.vs : List ResultVar := [.tmp 2]
def laws_FnAddrReads.x : Cx := ⟨tt, look none [(6, some laws_big.K), (19, some spec_DrawReadAddr.K), (11, some impl_ReadAddr.K), (20, some spec_ReadAddr.K), (21, some spec_DrawReadPrefix.K), (9, some impl_ReadPrefix.K), (17, some spec_ReadPrefix.K), (8, some impl_PrefixText.K), (22, some spec_PrefixOk.K), (12, some impl_AddrText.K)]⟩
def laws_FnAddrReads.f (k : Nat) (a0 : List (Int)) : Option (Bool) :=
  (laws_big.f k a0).bind fun r1 => (bif r1 then some true else (spec_DrawReadAddr.f k a0).bind fun r2 => (impl_ReadAddr.f k r2).bind fun r3 => (spec_ReadAddr.f k r2).bind fun r4 => (spec_DrawReadPrefix.f k a0).bind fun r5 => (impl_ReadPrefix.f k r5).bind fun r6 => (spec_ReadPrefix.f k r5).bind fun r7 => (impl_PrefixText.f k r6.1 r6.2.1).bind fun r8 => (bif (r3.2 == r4.2) then (bif (!r3.2) then (bif (r6.2.2 == r7.2.2) then (bif (!r6.2.2) then some true else (bif (r8.1.toList == r5.toList) then (spec_PrefixOk.f k r6.1 r6.2.1).bind fun r9 => some r9 else some false)) else some false) else (impl_AddrText.f k r3.1).bind fun r10 => (bif (r10.toList == r2.toList) then (bif (r6.2.2 == r7.2.2) then (bif (!r6.2.2) then some true else (bif (r8.1.toList == r5.toList) then (spec_PrefixOk.f k r6.1 r6.2.1).bind fun r11 => some r11 else some false)) else some false) else some false)) else some false))
def laws_FnAddrReads.K : Ctr := ⟨laws_FnAddrReads.ps, laws_FnAddrReads.rs, false, (.sl 5 (.int .u8)), .bool, fun k x => laws_FnAddrReads.f k x⟩
theorem laws_FnAddrReads.eq (k : Nat) (x : (laws_FnAddrReads.K.I).den) : func laws_FnAddrReads.x laws_FnAddrReads.h laws_FnAddrReads.ps laws_FnAddrReads.rs laws_FnAddrReads.vs laws_FnAddrReads.K.I laws_FnAddrReads.K.O laws_FnAddrReads.c k x = laws_FnAddrReads.K.run k x := by
  show _ = laws_FnAddrReads.f k x
  kernel_rfl
theorem laws_FnAddrReads.ok : CtrOk Tryd.prog 5 laws_FnAddrReads.K :=
  CtrOk.of (fn := Tryd.f5) (cd := laws_FnAddrReads.c) (cx := laws_FnAddrReads.x) (hs := laws_FnAddrReads.h) (by kernel_rfl) (by kernel_rfl) (by kernel_rfl) (by kernel_rfl) tt_ok (envOk_cons laws_big.ok (envOk_cons spec_DrawReadAddr.ok (envOk_cons impl_ReadAddr.ok (envOk_cons spec_ReadAddr.ok (envOk_cons spec_DrawReadPrefix.ok (envOk_cons impl_ReadPrefix.ok (envOk_cons spec_ReadPrefix.ok (envOk_cons impl_PrefixText.ok (envOk_cons spec_PrefixOk.ok (envOk_cons impl_AddrText.ok (envOk_nil))))))))))) (by kernel_rfl) (by kernel_rfl) (by kernel_rfl) (by kernel_rfl) fun k x r h => (laws_FnAddrReads.eq k x).trans h
end Go.Proofs.YtpheniajdbbphaaDoor.DI
