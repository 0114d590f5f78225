/- FnExactKeysOf: functions as plain Lean, in the machine of values. -/
import Derived.Test.YtpinehfjimphmaaVFnExactKeysOf4
namespace Go.Proofs.Ytpinehfjimphmaa.DI
open Go
set_option linter.unusedVariables false
/-! impl.KeysOf -/
noncomputable def impl_KeysOf.c : Code := bodyOf Try.f19
def impl_KeysOf.h : Nat → Hint := look ⟨[], [], []⟩ []
def impl_KeysOf.ps : List PK := [.agg 7]
def impl_KeysOf.rs : List RK := [.one true, .one true, .one true]
def impl_KeysOf.vs : List ResultVar := [.tmp 2, .tmp 3, .tmp 4]
def impl_KeysOf.x : Cx := ⟨tt, look none [(47, some impl_otherRole.K), (46, some impl_greeted.K), (48, some impl_SharedOf.K), (29, some impl_NumberText.K), (41, some impl_Transcript.K), (49, some impl_Expand.K)]⟩
def impl_KeysOf.f (k : Nat) (a0_0 : Int) (a0_1 : Int) (a0_2 : Int) (a0_3 : Int) (a0_4 : Int) (a0_5 : ByteArray) (a0_6 : ByteArray) : Option (ByteArray × ByteArray × Bool) :=
  (impl_otherRole.f k a0_0 a0_1 a0_2 a0_3 a0_4 a0_5 a0_6).bind fun r1 => (impl_greeted.f k a0_6 r1).bind fun r2 => (impl_SharedOf.f k a0_3 r2.1).bind fun r3 => (bif (a0_4 != (3 : Int)) then some (ByteArray.empty, ByteArray.empty, false) else (bif (!r2.2) then some (ByteArray.empty, ByteArray.empty, false) else (bif (!r3.2) then some (ByteArray.empty, ByteArray.empty, false) else (impl_NumberText.f k r3.1).bind fun r4 => (impl_Transcript.f k a0_0 a0_1 a0_2 a0_3 a0_4 a0_5 a0_6).bind fun r5 => (impl_Expand.f k r4 r5 (64 : Int)).bind fun r6 => (bif (a0_0 == (1 : Int)) then (bif (true && (decide ((32 : Int) ≤ (r6.1.size : Int)))) then (bif (true && (decide ((32 : Int) ≤ (r6.1.size : Int)))) then some ((r6.1.extract 0 32), (r6.1.extract 32 r6.1.size), true) else none) else none) else (bif (true && (decide ((32 : Int) ≤ (r6.1.size : Int)))) then (bif (true && (decide ((32 : Int) ≤ (r6.1.size : Int)))) then some ((r6.1.extract 32 r6.1.size), (r6.1.extract 0 32), true) else none) else none)))))
def impl_KeysOf.K : Ctr := ⟨impl_KeysOf.ps, impl_KeysOf.rs, false, (.two (.int .i64) (.two (.int .i64) (.two (.int .i64) (.two (.int .i64) (.two (.int .i64) (.two .str .str)))))), (.two .str (.two .str .bool)), fun k x => impl_KeysOf.f k x.1 x.2.1 x.2.2.1 x.2.2.2.1 x.2.2.2.2.1 x.2.2.2.2.2.1 x.2.2.2.2.2.2⟩
theorem impl_KeysOf.eq (k : Nat) (x : (impl_KeysOf.K.I).den) : func impl_KeysOf.x impl_KeysOf.h impl_KeysOf.ps impl_KeysOf.rs impl_KeysOf.vs impl_KeysOf.K.I impl_KeysOf.K.O impl_KeysOf.c k x = impl_KeysOf.K.run k x := by
  show _ = impl_KeysOf.f k x.1 x.2.1 x.2.2.1 x.2.2.2.1 x.2.2.2.2.1 x.2.2.2.2.2.1 x.2.2.2.2.2.2
  kernel_rfl
theorem impl_KeysOf.ok : CtrOk Try.prog 19 impl_KeysOf.K :=
  CtrOk.of (fn := Try.f19) (cd := impl_KeysOf.c) (cx := impl_KeysOf.x) (hs := impl_KeysOf.h) (by kernel_rfl) (by kernel_rfl) (by kernel_rfl) (by kernel_rfl) tt_ok (envOk_cons impl_otherRole.ok (envOk_cons impl_greeted.ok (envOk_cons impl_SharedOf.ok (envOk_cons impl_NumberText.ok (envOk_cons impl_Transcript.ok (envOk_cons impl_Expand.ok (envOk_nil))))))) (by kernel_rfl) (by kernel_rfl) (by kernel_rfl) (by kernel_rfl) fun k x r h => (impl_KeysOf.eq k x).trans h
/-! laws.FnExactKeysOf -/
noncomputable def laws_FnExactKeysOf.c : Code := bodyOf Try.f6
def laws_FnExactKeysOf.h : Nat → Hint := look ⟨[], [], []⟩ []
def laws_FnExactKeysOf.ps : List PK := [.agg 7]
def laws_FnExactKeysOf.rs : List RK := [.one true]
def laws_FnExactKeysOf.vs : List ResultVar := [.tmp 2]
def laws_FnExactKeysOf.x : Cx := ⟨tt, look none [(9, some laws_szGreeter.K), (11, some laws_toGreeter.K), (18, some spec_KeysOf.K), (19, some impl_KeysOf.K)]⟩
def laws_FnExactKeysOf.f (k : Nat) (a0_0 : Int) (a0_1 : Int) (a0_2 : Int) (a0_3 : Int) (a0_4 : Int) (a0_5 : ByteArray) (a0_6 : ByteArray) : Option (Bool) :=
  (laws_szGreeter.f k a0_0 a0_1 a0_2 a0_3 a0_4 a0_5 a0_6 (1048576 : Int)).bind fun r1 => (bif (decide (r1 < (0 : Int))) then some true else (laws_toGreeter.f k a0_0 a0_1 a0_2 a0_3 a0_4 a0_5 a0_6).bind fun r2 => (spec_KeysOf.f k r2.1 r2.2.1 r2.2.2.1 r2.2.2.2.1 r2.2.2.2.2.1 r2.2.2.2.2.2.1 r2.2.2.2.2.2.2).bind fun r3 => (laws_toGreeter.f k a0_0 a0_1 a0_2 a0_3 a0_4 a0_5 a0_6).bind fun r4 => (impl_KeysOf.f k r4.1 r4.2.1 r4.2.2.1 r4.2.2.2.1 r4.2.2.2.2.1 r4.2.2.2.2.2.1 r4.2.2.2.2.2.2).bind fun r5 => (bif (!(r5.1.toList == r3.1.toList)) then some false else (bif (!(r5.2.1.toList == r3.2.1.toList)) then some false else (bif (!(r5.2.2 == r3.2.2)) then some false else some true))))
def laws_FnExactKeysOf.K : Ctr := ⟨laws_FnExactKeysOf.ps, laws_FnExactKeysOf.rs, false, (.two (.int .i64) (.two (.int .i64) (.two (.int .i64) (.two (.int .i64) (.two (.int .i64) (.two .str .str)))))), .bool, fun k x => laws_FnExactKeysOf.f k x.1 x.2.1 x.2.2.1 x.2.2.2.1 x.2.2.2.2.1 x.2.2.2.2.2.1 x.2.2.2.2.2.2⟩
theorem laws_FnExactKeysOf.eq (k : Nat) (x : (laws_FnExactKeysOf.K.I).den) : func laws_FnExactKeysOf.x laws_FnExactKeysOf.h laws_FnExactKeysOf.ps laws_FnExactKeysOf.rs laws_FnExactKeysOf.vs laws_FnExactKeysOf.K.I laws_FnExactKeysOf.K.O laws_FnExactKeysOf.c k x = laws_FnExactKeysOf.K.run k x := by
  show _ = laws_FnExactKeysOf.f k x.1 x.2.1 x.2.2.1 x.2.2.2.1 x.2.2.2.2.1 x.2.2.2.2.2.1 x.2.2.2.2.2.2
  kernel_rfl
theorem laws_FnExactKeysOf.ok : CtrOk Try.prog 6 laws_FnExactKeysOf.K :=
  CtrOk.of (fn := Try.f6) (cd := laws_FnExactKeysOf.c) (cx := laws_FnExactKeysOf.x) (hs := laws_FnExactKeysOf.h) (by kernel_rfl) (by kernel_rfl) (by kernel_rfl) (by kernel_rfl) tt_ok (envOk_cons laws_szGreeter.ok (envOk_cons laws_toGreeter.ok (envOk_cons spec_KeysOf.ok (envOk_cons impl_KeysOf.ok (envOk_nil))))) (by kernel_rfl) (by kernel_rfl) (by kernel_rfl) (by kernel_rfl) fun k x r h => (laws_FnExactKeysOf.eq k x).trans h
end Go.Proofs.Ytpinehfjimphmaa.DI
