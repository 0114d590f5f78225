/- FnExactProof: functions as plain Lean, in the machine of values. -/
import Derived.Test.YtpinehfjimphmaaVFnExactProof4
namespace Go.Proofs.Ytpinehfjimphmaa.DI
open Go
set_option linter.unusedVariables false
/-! impl.SigText -/
noncomputable def impl_SigText.c : Code := bodyOf Try.f42
def impl_SigText.h : Nat → Hint := look ⟨[], [], []⟩ []
def impl_SigText.ps : List PK := [.agg 2]
def impl_SigText.rs : List RK := [.one true, .one true]
def impl_SigText.vs : List ResultVar := [.tmp 2, .tmp 3]
def impl_SigText.x : Cx := ⟨tt, look none [(65, some impl_sigOk.K), (29, some impl_NumberText.K)]⟩
def impl_SigText.f (k : Nat) (a0_0 : Int) (a0_1 : Int) : Option (ByteArray × Bool) :=
  (impl_sigOk.f k a0_0 a0_1).bind fun r1 => (bif (!r1) then some (ByteArray.empty, false) else (impl_NumberText.f k a0_0).bind fun r2 => (impl_NumberText.f k a0_1).bind fun r3 => (bif decide (r2.size + r3.size ≤ 140737488351232) then some ((r2 ++ r3), true) else none))
def impl_SigText.K : Ctr := ⟨impl_SigText.ps, impl_SigText.rs, false, (.two (.int .i64) (.int .i64)), (.two .str .bool), fun k x => impl_SigText.f k x.1 x.2⟩
theorem impl_SigText.eq (k : Nat) (x : (impl_SigText.K.I).den) : func impl_SigText.x impl_SigText.h impl_SigText.ps impl_SigText.rs impl_SigText.vs impl_SigText.K.I impl_SigText.K.O impl_SigText.c k x = impl_SigText.K.run k x := by
  show _ = impl_SigText.f k x.1 x.2
  kernel_rfl
theorem impl_SigText.ok : CtrOk Try.prog 42 impl_SigText.K :=
  CtrOk.of (fn := Try.f42) (cd := impl_SigText.c) (cx := impl_SigText.x) (hs := impl_SigText.h) (by kernel_rfl) (by kernel_rfl) (by kernel_rfl) (by kernel_rfl) tt_ok (envOk_cons impl_sigOk.ok (envOk_cons impl_NumberText.ok (envOk_nil))) (by kernel_rfl) (by kernel_rfl) (by kernel_rfl) (by kernel_rfl) fun k x r h => (impl_SigText.eq k x).trans h
/-! impl.Proof -/
noncomputable def impl_Proof.c : Code := bodyOf Try.f17
def impl_Proof.h : Nat → Hint := look ⟨[], [], []⟩ []
def impl_Proof.ps : List PK := [.agg 7]
def impl_Proof.rs : List RK := [.one true]
def impl_Proof.vs : List ResultVar := [.tmp 2]
def impl_Proof.x : Cx := ⟨tt, look none [(41, some impl_Transcript.K), (28, some impl_byteText.K), (40, some impl_SignText.K), (42, some impl_SigText.K)]⟩
def impl_Proof.f (k : Nat) (a0_0 : Int) (a0_1 : Int) (a0_2 : Int) (a0_3 : Int) (a0_4 : Int) (a0_5 : ByteArray) (a0_6 : ByteArray) : Option (ByteArray) :=
  (bif (a0_4 != (2 : Int)) then (bif (a0_4 != (3 : Int)) then some ByteArray.empty else (impl_Transcript.f k a0_0 a0_1 a0_2 a0_3 a0_4 a0_5 a0_6).bind fun r1 => (impl_byteText.f k a0_0).bind fun r2 => (bif decide (r1.size + r2.size ≤ 140737488351232) then (impl_SignText.f k a0_1 (r1 ++ r2)).bind fun r3 => (impl_SigText.f k r3.1 r3.2.1).bind fun r4 => (bif decide ((⟨#[112]⟩ : ByteArray).size + r4.1.size ≤ 140737488351232) then some ((⟨#[112]⟩ : ByteArray) ++ r4.1) else none) else none)) else (impl_Transcript.f k a0_0 a0_1 a0_2 a0_3 a0_4 a0_5 a0_6).bind fun r5 => (impl_byteText.f k a0_0).bind fun r6 => (bif decide (r5.size + r6.size ≤ 140737488351232) then (impl_SignText.f k a0_1 (r5 ++ r6)).bind fun r7 => (impl_SigText.f k r7.1 r7.2.1).bind fun r8 => (bif decide ((⟨#[112]⟩ : ByteArray).size + r8.1.size ≤ 140737488351232) then some ((⟨#[112]⟩ : ByteArray) ++ r8.1) else none) else none))
def impl_Proof.K : Ctr := ⟨impl_Proof.ps, impl_Proof.rs, false, (.two (.int .i64) (.two (.int .i64) (.two (.int .i64) (.two (.int .i64) (.two (.int .i64) (.two .str .str)))))), .str, fun k x => impl_Proof.f k x.1 x.2.1 x.2.2.1 x.2.2.2.1 x.2.2.2.2.1 x.2.2.2.2.2.1 x.2.2.2.2.2.2⟩
theorem impl_Proof.eq (k : Nat) (x : (impl_Proof.K.I).den) : func impl_Proof.x impl_Proof.h impl_Proof.ps impl_Proof.rs impl_Proof.vs impl_Proof.K.I impl_Proof.K.O impl_Proof.c k x = impl_Proof.K.run k x := by
  show _ = impl_Proof.f k x.1 x.2.1 x.2.2.1 x.2.2.2.1 x.2.2.2.2.1 x.2.2.2.2.2.1 x.2.2.2.2.2.2
  kernel_rfl
theorem impl_Proof.ok : CtrOk Try.prog 17 impl_Proof.K :=
  CtrOk.of (fn := Try.f17) (cd := impl_Proof.c) (cx := impl_Proof.x) (hs := impl_Proof.h) (by kernel_rfl) (by kernel_rfl) (by kernel_rfl) (by kernel_rfl) tt_ok (envOk_cons impl_Transcript.ok (envOk_cons impl_byteText.ok (envOk_cons impl_SignText.ok (envOk_cons impl_SigText.ok (envOk_nil))))) (by kernel_rfl) (by kernel_rfl) (by kernel_rfl) (by kernel_rfl) fun k x r h => (impl_Proof.eq k x).trans h
/-! laws.FnExactProof -/
noncomputable def laws_FnExactProof.c : Code := bodyOf Try.f5
def laws_FnExactProof.h : Nat → Hint := look ⟨[], [], []⟩ []
def laws_FnExactProof.ps : List PK := [.agg 7]
def laws_FnExactProof.rs : List RK := [.one true]
def laws_FnExactProof.vs : List ResultVar := [.tmp 2]
def laws_FnExactProof.x : Cx := ⟨tt, look none [(9, some laws_szGreeter.K), (11, some laws_toGreeter.K), (16, some spec_Proof.K), (17, some impl_Proof.K)]⟩
def laws_FnExactProof.f (k : Nat) (a0_0 : Int) (a0_1 : Int) (a0_2 : Int) (a0_3 : Int) (a0_4 : Int) (a0_5 : ByteArray) (a0_6 : ByteArray) : Option (Bool) :=
  (laws_szGreeter.f k a0_0 a0_1 a0_2 a0_3 a0_4 a0_5 a0_6 (1048576 : Int)).bind fun r1 => (bif (decide (r1 < (0 : Int))) then some true else (laws_toGreeter.f k a0_0 a0_1 a0_2 a0_3 a0_4 a0_5 a0_6).bind fun r2 => (spec_Proof.f k r2.1 r2.2.1 r2.2.2.1 r2.2.2.2.1 r2.2.2.2.2.1 r2.2.2.2.2.2.1 r2.2.2.2.2.2.2).bind fun r3 => (laws_toGreeter.f k a0_0 a0_1 a0_2 a0_3 a0_4 a0_5 a0_6).bind fun r4 => (impl_Proof.f k r4.1 r4.2.1 r4.2.2.1 r4.2.2.2.1 r4.2.2.2.2.1 r4.2.2.2.2.2.1 r4.2.2.2.2.2.2).bind fun r5 => (bif (!(r5.toList == r3.toList)) then some false else some true))
def laws_FnExactProof.K : Ctr := ⟨laws_FnExactProof.ps, laws_FnExactProof.rs, false, (.two (.int .i64) (.two (.int .i64) (.two (.int .i64) (.two (.int .i64) (.two (.int .i64) (.two .str .str)))))), .bool, fun k x => laws_FnExactProof.f k x.1 x.2.1 x.2.2.1 x.2.2.2.1 x.2.2.2.2.1 x.2.2.2.2.2.1 x.2.2.2.2.2.2⟩
theorem laws_FnExactProof.eq (k : Nat) (x : (laws_FnExactProof.K.I).den) : func laws_FnExactProof.x laws_FnExactProof.h laws_FnExactProof.ps laws_FnExactProof.rs laws_FnExactProof.vs laws_FnExactProof.K.I laws_FnExactProof.K.O laws_FnExactProof.c k x = laws_FnExactProof.K.run k x := by
  show _ = laws_FnExactProof.f k x.1 x.2.1 x.2.2.1 x.2.2.2.1 x.2.2.2.2.1 x.2.2.2.2.2.1 x.2.2.2.2.2.2
  kernel_rfl
theorem laws_FnExactProof.ok : CtrOk Try.prog 5 laws_FnExactProof.K :=
  CtrOk.of (fn := Try.f5) (cd := laws_FnExactProof.c) (cx := laws_FnExactProof.x) (hs := laws_FnExactProof.h) (by kernel_rfl) (by kernel_rfl) (by kernel_rfl) (by kernel_rfl) tt_ok (envOk_cons laws_szGreeter.ok (envOk_cons laws_toGreeter.ok (envOk_cons spec_Proof.ok (envOk_cons impl_Proof.ok (envOk_nil))))) (by kernel_rfl) (by kernel_rfl) (by kernel_rfl) (by kernel_rfl) fun k x r h => (laws_FnExactProof.eq k x).trans h
end Go.Proofs.Ytpinehfjimphmaa.DI
