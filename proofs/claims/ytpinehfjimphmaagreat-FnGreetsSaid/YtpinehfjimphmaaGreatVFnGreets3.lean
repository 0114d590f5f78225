/- FnGreets: functions as plain Lean, in the machine of values. -/
import Derived.Test.YtpinehfjimphmaaGreatVFnGreets2
namespace Go.Proofs.YtpinehfjimphmaaGreat.DI
open Go
set_option linter.unusedVariables false
/-! impl.InGroup -/
noncomputable def impl_InGroup.c : Code := bodyOf Tryz.f45
def impl_InGroup.h : Nat → Hint := look ⟨[], [], []⟩ []
def impl_InGroup.ps : List PK := [.one]
def impl_InGroup.rs : List RK := [.one true]
def impl_InGroup.vs : List ResultVar := [.tmp 2]
def impl_InGroup.x : Cx := ⟨tt, look none [(44, some impl_within.K), (47, some impl_PowP.K)]⟩
def impl_InGroup.f (k : Nat) (a0 : Int) : Option (Bool) :=
  (impl_within.f k a0 (2 : Int) (2147483578 : Int)).bind fun r1 => (bif r1 then (impl_PowP.f k a0 (1073741789 : Int)).bind fun r2 => some (r2 == (1 : Int)) else some false)
def impl_InGroup.K : Ctr := ⟨impl_InGroup.ps, impl_InGroup.rs, false, (.int .i64), .bool, fun k x => impl_InGroup.f k x⟩
theorem impl_InGroup.eq (k : Nat) (x : (impl_InGroup.K.I).den) : func impl_InGroup.x impl_InGroup.h impl_InGroup.ps impl_InGroup.rs impl_InGroup.vs impl_InGroup.K.I impl_InGroup.K.O impl_InGroup.c k x = impl_InGroup.K.run k x := by
  show _ = impl_InGroup.f k x
  kernel_rfl
theorem impl_InGroup.ok : CtrOk Tryz.prog 45 impl_InGroup.K :=
  CtrOk.of (fn := Tryz.f45) (cd := impl_InGroup.c) (cx := impl_InGroup.x) (hs := impl_InGroup.h) (by kernel_rfl) (by kernel_rfl) (by kernel_rfl) (by kernel_rfl) tt_ok (envOk_cons impl_within.ok (envOk_cons impl_PowP.ok (envOk_nil))) (by kernel_rfl) (by kernel_rfl) (by kernel_rfl) (by kernel_rfl) fun k x r h => (impl_InGroup.eq k x).trans h
/-! impl.GreeterNew -/
noncomputable def impl_GreeterNew.c : Code := bodyOf Tryz.f25
def impl_GreeterNew.h : Nat → Hint := look ⟨[], [], []⟩ []
def impl_GreeterNew.ps : List PK := [.one, .one, .one, .one]
def impl_GreeterNew.rs : List RK := [.agg 7 true, .one true]
def impl_GreeterNew.vs : List ResultVar := [.cell 8 32, .tmp 9]
def impl_GreeterNew.x : Cx := ⟨tt, look none [(44, some impl_within.K), (45, some impl_InGroup.K), (27, some impl_SecretOf.K)]⟩
def impl_GreeterNew.f (k : Nat) (a0 : Int) (a1 : ByteArray) (a2 : ByteArray) (a3 : Int) : Option (Int × Int × Int × Int × Int × ByteArray × ByteArray × Bool) :=
  (impl_within.f k a0 (1 : Int) (2 : Int)).bind fun r1 => (bif (!r1) then some ((0 : Int), (0 : Int), (0 : Int), (0 : Int), (0 : Int), ByteArray.empty, ByteArray.empty, false) else (impl_InGroup.f k a3).bind fun r2 => (bif (!r2) then some ((0 : Int), (0 : Int), (0 : Int), (0 : Int), (0 : Int), ByteArray.empty, ByteArray.empty, false) else (impl_SecretOf.f k a1).bind fun r3 => (impl_SecretOf.f k a2).bind fun r4 => some (a0, r3, a3, r4, (0 : Int), ByteArray.empty, ByteArray.empty, true)))
def impl_GreeterNew.K : Ctr := ⟨impl_GreeterNew.ps, impl_GreeterNew.rs, false, (.two (.int .i64) (.two .str (.two .str (.int .i64)))), (.two (.int .i64) (.two (.int .i64) (.two (.int .i64) (.two (.int .i64) (.two (.int .i64) (.two .str (.two .str .bool))))))), fun k x => impl_GreeterNew.f k x.1 x.2.1 x.2.2.1 x.2.2.2⟩
theorem impl_GreeterNew.eq (k : Nat) (x : (impl_GreeterNew.K.I).den) : func impl_GreeterNew.x impl_GreeterNew.h impl_GreeterNew.ps impl_GreeterNew.rs impl_GreeterNew.vs impl_GreeterNew.K.I impl_GreeterNew.K.O impl_GreeterNew.c k x = impl_GreeterNew.K.run k x := by
  show _ = impl_GreeterNew.f k x.1 x.2.1 x.2.2.1 x.2.2.2
  kernel_rfl
theorem impl_GreeterNew.ok : CtrOk Tryz.prog 25 impl_GreeterNew.K :=
  CtrOk.of (fn := Tryz.f25) (cd := impl_GreeterNew.c) (cx := impl_GreeterNew.x) (hs := impl_GreeterNew.h) (by kernel_rfl) (by kernel_rfl) (by kernel_rfl) (by kernel_rfl) tt_ok (envOk_cons impl_within.ok (envOk_cons impl_InGroup.ok (envOk_cons impl_SecretOf.ok (envOk_nil)))) (by kernel_rfl) (by kernel_rfl) (by kernel_rfl) (by kernel_rfl) fun k x r h => (impl_GreeterNew.eq k x).trans h
/-! impl.byteText -/
noncomputable def impl_byteText.c : Code := bodyOf Tryz.f49
def impl_byteText.h : Nat → Hint := look ⟨[], [], []⟩ []
def impl_byteText.ps : List PK := [.one]
def impl_byteText.rs : List RK := [.one true]
def impl_byteText.vs : List ResultVar := [.tmp 2]
def impl_byteText.x : Cx := ⟨tt, look none []⟩
def impl_byteText.f (_k : Nat) (a0 : Int) : Option (ByteArray) :=
  some (strOfNums [(IntKind.u8.wrap a0)])
def impl_byteText.K : Ctr := ⟨impl_byteText.ps, impl_byteText.rs, false, (.int .i64), .str, fun k x => impl_byteText.f k x⟩
theorem impl_byteText.eq (k : Nat) (x : (impl_byteText.K.I).den) : func impl_byteText.x impl_byteText.h impl_byteText.ps impl_byteText.rs impl_byteText.vs impl_byteText.K.I impl_byteText.K.O impl_byteText.c k x = impl_byteText.K.run k x := by
  show _ = impl_byteText.f k x
  kernel_rfl
theorem impl_byteText.ok : CtrOk Tryz.prog 49 impl_byteText.K :=
  CtrOk.of (fn := Tryz.f49) (cd := impl_byteText.c) (cx := impl_byteText.x) (hs := impl_byteText.h) (by kernel_rfl) (by kernel_rfl) (by kernel_rfl) (by kernel_rfl) tt_ok (envOk_nil) (by kernel_rfl) (by kernel_rfl) (by kernel_rfl) (by kernel_rfl) fun k x r h => (impl_byteText.eq k x).trans h
/-! impl.Hello -/
noncomputable def impl_Hello.c : Code := bodyOf Tryz.f28
def impl_Hello.h : Nat → Hint := look ⟨[], [], []⟩ []
def impl_Hello.ps : List PK := [.agg 7]
def impl_Hello.rs : List RK := [.agg 7 true, .one true]
def impl_Hello.vs : List ResultVar := [.cell 2 32, .tmp 3]
def impl_Hello.x : Cx := ⟨tt, look none [(49, some impl_byteText.K), (26, some impl_PublicOf.K), (39, some impl_NumberText.K)]⟩
def impl_Hello.f (k : Nat) (a0_0 : Int) (a0_1 : Int) (a0_2 : Int) (a0_3 : Int) (a0_4 : Int) (a0_5 : ByteArray) (a0_6 : ByteArray) : Option (Int × Int × Int × Int × Int × ByteArray × ByteArray × ByteArray) :=
  (bif (a0_4 != (0 : Int)) then some (a0_0, a0_1, a0_2, a0_3, a0_4, a0_5, a0_6, ByteArray.empty) else (impl_byteText.f k a0_0).bind fun r1 => (bif decide ((⟨#[104]⟩ : ByteArray).size + r1.size ≤ 140737488351232) then (impl_PublicOf.f k a0_3).bind fun r2 => (impl_NumberText.f k r2).bind fun r3 => (bif decide (((⟨#[104]⟩ : ByteArray) ++ r1).size + r3.size ≤ 140737488351232) then some (a0_0, a0_1, a0_2, a0_3, (1 : Int), (((⟨#[104]⟩ : ByteArray) ++ r1) ++ r3), a0_6, (((⟨#[104]⟩ : ByteArray) ++ r1) ++ r3)) else none) else none))
def impl_Hello.K : Ctr := ⟨impl_Hello.ps, impl_Hello.rs, false, (.two (.int .i64) (.two (.int .i64) (.two (.int .i64) (.two (.int .i64) (.two (.int .i64) (.two .str .str)))))), (.two (.int .i64) (.two (.int .i64) (.two (.int .i64) (.two (.int .i64) (.two (.int .i64) (.two .str (.two .str .str))))))), fun k x => impl_Hello.f k x.1 x.2.1 x.2.2.1 x.2.2.2.1 x.2.2.2.2.1 x.2.2.2.2.2.1 x.2.2.2.2.2.2⟩
theorem impl_Hello.eq (k : Nat) (x : (impl_Hello.K.I).den) : func impl_Hello.x impl_Hello.h impl_Hello.ps impl_Hello.rs impl_Hello.vs impl_Hello.K.I impl_Hello.K.O impl_Hello.c k x = impl_Hello.K.run k x := by
  show _ = impl_Hello.f k x.1 x.2.1 x.2.2.1 x.2.2.2.1 x.2.2.2.2.1 x.2.2.2.2.2.1 x.2.2.2.2.2.2
  kernel_rfl
theorem impl_Hello.ok : CtrOk Tryz.prog 28 impl_Hello.K :=
  CtrOk.of (fn := Tryz.f28) (cd := impl_Hello.c) (cx := impl_Hello.x) (hs := impl_Hello.h) (by kernel_rfl) (by kernel_rfl) (by kernel_rfl) (by kernel_rfl) tt_ok (envOk_cons impl_byteText.ok (envOk_cons impl_PublicOf.ok (envOk_cons impl_NumberText.ok (envOk_nil)))) (by kernel_rfl) (by kernel_rfl) (by kernel_rfl) (by kernel_rfl) fun k x r h => (impl_Hello.eq k x).trans h
/-! impl.otherRole -/
noncomputable def impl_otherRole.c : Code := bodyOf Tryz.f36
def impl_otherRole.h : Nat → Hint := look ⟨[], [], []⟩ []
def impl_otherRole.ps : List PK := [.agg 7]
def impl_otherRole.rs : List RK := [.one true]
def impl_otherRole.vs : List ResultVar := [.tmp 2]
def impl_otherRole.x : Cx := ⟨tt, look none []⟩
def impl_otherRole.f (_k : Nat) (a0_0 : Int) (_a0_1 : Int) (_a0_2 : Int) (_a0_3 : Int) (_a0_4 : Int) (_a0_5 : ByteArray) (_a0_6 : ByteArray) : Option (Int) :=
  some (IntKind.i64.wrap ((3 : Int) - a0_0))
def impl_otherRole.K : Ctr := ⟨impl_otherRole.ps, impl_otherRole.rs, false, (.two (.int .i64) (.two (.int .i64) (.two (.int .i64) (.two (.int .i64) (.two (.int .i64) (.two .str .str)))))), (.int .i64), fun k x => impl_otherRole.f k x.1 x.2.1 x.2.2.1 x.2.2.2.1 x.2.2.2.2.1 x.2.2.2.2.2.1 x.2.2.2.2.2.2⟩
theorem impl_otherRole.eq (k : Nat) (x : (impl_otherRole.K.I).den) : func impl_otherRole.x impl_otherRole.h impl_otherRole.ps impl_otherRole.rs impl_otherRole.vs impl_otherRole.K.I impl_otherRole.K.O impl_otherRole.c k x = impl_otherRole.K.run k x := by
  show _ = impl_otherRole.f k x.1 x.2.1 x.2.2.1 x.2.2.2.1 x.2.2.2.2.1 x.2.2.2.2.2.1 x.2.2.2.2.2.2
  kernel_rfl
theorem impl_otherRole.ok : CtrOk Tryz.prog 36 impl_otherRole.K :=
  CtrOk.of (fn := Tryz.f36) (cd := impl_otherRole.c) (cx := impl_otherRole.x) (hs := impl_otherRole.h) (by kernel_rfl) (by kernel_rfl) (by kernel_rfl) (by kernel_rfl) tt_ok (envOk_nil) (by kernel_rfl) (by kernel_rfl) (by kernel_rfl) (by kernel_rfl) fun k x r h => (impl_otherRole.eq k x).trans h
/-! impl.greeted -/
noncomputable def impl_greeted.c : Code := bodyOf Tryz.f35
def impl_greeted.h : Nat → Hint := look ⟨[], [], []⟩ []
def impl_greeted.ps : List PK := [.one, .one]
def impl_greeted.rs : List RK := [.one true, .one true]
def impl_greeted.vs : List ResultVar := [.tmp 4, .tmp 5]
def impl_greeted.x : Cx := ⟨tt, look none [(49, some impl_byteText.K), (60, some impl_ReadNumber.K), (45, some impl_InGroup.K)]⟩
def impl_greeted.f (k : Nat) (a0 : ByteArray) (a1 : Int) : Option (Int × Bool) :=
  (bif ((a0.size : Int) != (6 : Int)) then some ((0 : Int), false) else (bif (true && (decide ((2 : Int) ≤ (a0.size : Int)))) then (impl_byteText.f k a1).bind fun r1 => (bif decide ((⟨#[104]⟩ : ByteArray).size + r1.size ≤ 140737488351232) then (bif (!((a0.extract 0 2).toList == ((⟨#[104]⟩ : ByteArray) ++ r1).toList)) then some ((0 : Int), false) else (bif (true && (decide ((2 : Int) ≤ (a0.size : Int)))) then (impl_ReadNumber.f k (a0.extract 2 a0.size)).bind fun r2 => (impl_InGroup.f k r2.1).bind fun r3 => some (r2.1, r3) else none)) else none) else none))
def impl_greeted.K : Ctr := ⟨impl_greeted.ps, impl_greeted.rs, false, (.two .str (.int .i64)), (.two (.int .i64) .bool), fun k x => impl_greeted.f k x.1 x.2⟩
theorem impl_greeted.eq (k : Nat) (x : (impl_greeted.K.I).den) : func impl_greeted.x impl_greeted.h impl_greeted.ps impl_greeted.rs impl_greeted.vs impl_greeted.K.I impl_greeted.K.O impl_greeted.c k x = impl_greeted.K.run k x := by
  show _ = impl_greeted.f k x.1 x.2
  kernel_rfl
theorem impl_greeted.ok : CtrOk Tryz.prog 35 impl_greeted.K :=
  CtrOk.of (fn := Tryz.f35) (cd := impl_greeted.c) (cx := impl_greeted.x) (hs := impl_greeted.h) (by kernel_rfl) (by kernel_rfl) (by kernel_rfl) (by kernel_rfl) tt_ok (envOk_cons impl_byteText.ok (envOk_cons impl_ReadNumber.ok (envOk_cons impl_InGroup.ok (envOk_nil)))) (by kernel_rfl) (by kernel_rfl) (by kernel_rfl) (by kernel_rfl) fun k x r h => (impl_greeted.eq k x).trans h
/-! impl.Transcript -/
noncomputable def impl_Transcript.c : Code := bodyOf Tryz.f10
def impl_Transcript.h : Nat → Hint := look ⟨[], [], []⟩ []
def impl_Transcript.ps : List PK := [.agg 7]
def impl_Transcript.rs : List RK := [.one true]
def impl_Transcript.vs : List ResultVar := [.tmp 2]
def impl_Transcript.x : Cx := ⟨tt, look none []⟩
def impl_Transcript.f (_k : Nat) (a0_0 : Int) (_a0_1 : Int) (_a0_2 : Int) (_a0_3 : Int) (_a0_4 : Int) (a0_5 : ByteArray) (a0_6 : ByteArray) : Option (ByteArray) :=
  (bif (a0_0 == (1 : Int)) then (bif decide (a0_5.size + a0_6.size ≤ 140737488351232) then some (a0_5 ++ a0_6) else none) else (bif decide (a0_6.size + a0_5.size ≤ 140737488351232) then some (a0_6 ++ a0_5) else none))
def impl_Transcript.K : Ctr := ⟨impl_Transcript.ps, impl_Transcript.rs, false, (.two (.int .i64) (.two (.int .i64) (.two (.int .i64) (.two (.int .i64) (.two (.int .i64) (.two .str .str)))))), .str, fun k x => impl_Transcript.f k x.1 x.2.1 x.2.2.1 x.2.2.2.1 x.2.2.2.2.1 x.2.2.2.2.2.1 x.2.2.2.2.2.2⟩
theorem impl_Transcript.eq (k : Nat) (x : (impl_Transcript.K.I).den) : func impl_Transcript.x impl_Transcript.h impl_Transcript.ps impl_Transcript.rs impl_Transcript.vs impl_Transcript.K.I impl_Transcript.K.O impl_Transcript.c k x = impl_Transcript.K.run k x := by
  show _ = impl_Transcript.f k x.1 x.2.1 x.2.2.1 x.2.2.2.1 x.2.2.2.2.1 x.2.2.2.2.2.1 x.2.2.2.2.2.2
  kernel_rfl
theorem impl_Transcript.ok : CtrOk Tryz.prog 10 impl_Transcript.K :=
  CtrOk.of (fn := Tryz.f10) (cd := impl_Transcript.c) (cx := impl_Transcript.x) (hs := impl_Transcript.h) (by kernel_rfl) (by kernel_rfl) (by kernel_rfl) (by kernel_rfl) tt_ok (envOk_nil) (by kernel_rfl) (by kernel_rfl) (by kernel_rfl) (by kernel_rfl) fun k x r h => (impl_Transcript.eq k x).trans h
/-! impl.Challenge -/
noncomputable def impl_Challenge.c : Code := bodyOf Tryz.f83
def impl_Challenge.h : Nat → Hint := look ⟨[], [], []⟩ []
def impl_Challenge.ps : List PK := [.one, .one, .one]
def impl_Challenge.rs : List RK := [.one true]
def impl_Challenge.vs : List ResultVar := [.tmp 6]
def impl_Challenge.x : Cx := ⟨tt, look none [(44, some impl_within.K), (39, some impl_NumberText.K), (48, some impl_digestNumber.K)]⟩
def impl_Challenge.f (k : Nat) (a0 : Int) (a1 : Int) (a2 : ByteArray) : Option (Int) :=
  (impl_within.f k a0 (0 : Int) (4294967295 : Int)).bind fun r1 => (bif (!r1) then some (0 : Int) else (impl_within.f k a1 (0 : Int) (4294967295 : Int)).bind fun r2 => (bif (!r2) then some (0 : Int) else (impl_NumberText.f k a0).bind fun r3 => (impl_NumberText.f k a1).bind fun r4 => (bif decide (r3.size + r4.size ≤ 140737488351232) then (bif decide ((r3 ++ r4).size + a2.size ≤ 140737488351232) then (impl_digestNumber.f k ((r3 ++ r4) ++ a2)).bind fun r5 => some (r5.tmod (1073741789 : Int)) else none) else none)))
def impl_Challenge.K : Ctr := ⟨impl_Challenge.ps, impl_Challenge.rs, false, (.two (.int .i64) (.two (.int .i64) .str)), (.int .i64), fun k x => impl_Challenge.f k x.1 x.2.1 x.2.2⟩
theorem impl_Challenge.eq (k : Nat) (x : (impl_Challenge.K.I).den) : func impl_Challenge.x impl_Challenge.h impl_Challenge.ps impl_Challenge.rs impl_Challenge.vs impl_Challenge.K.I impl_Challenge.K.O impl_Challenge.c k x = impl_Challenge.K.run k x := by
  show _ = impl_Challenge.f k x.1 x.2.1 x.2.2
  kernel_rfl
theorem impl_Challenge.ok : CtrOk Tryz.prog 83 impl_Challenge.K :=
  CtrOk.of (fn := Tryz.f83) (cd := impl_Challenge.c) (cx := impl_Challenge.x) (hs := impl_Challenge.h) (by kernel_rfl) (by kernel_rfl) (by kernel_rfl) (by kernel_rfl) tt_ok (envOk_cons impl_within.ok (envOk_cons impl_NumberText.ok (envOk_cons impl_digestNumber.ok (envOk_nil)))) (by kernel_rfl) (by kernel_rfl) (by kernel_rfl) (by kernel_rfl) fun k x r h => (impl_Challenge.eq k x).trans h
/-! impl.SignText -/
noncomputable def impl_SignText.c : Code := bodyOf Tryz.f64
def impl_SignText.h : Nat → Hint := look ⟨[], [], []⟩ []
def impl_SignText.ps : List PK := [.one, .one]
def impl_SignText.rs : List RK := [.agg 2 true, .one true]
def impl_SignText.vs : List ResultVar := [.cell 4 83, .tmp 5]
def impl_SignText.x : Cx := ⟨tt, look none [(46, some impl_secretOk.K), (39, some impl_NumberText.K), (27, some impl_SecretOf.K), (47, some impl_PowP.K), (26, some impl_PublicOf.K), (83, some impl_Challenge.K)]⟩
def impl_SignText.f (k : Nat) (a0 : Int) (a1 : ByteArray) : Option (Int × Int × Bool) :=
  (impl_secretOk.f k a0).bind fun r1 => (bif (!r1) then some ((0 : Int), (0 : Int), false) else (impl_NumberText.f k a0).bind fun r2 => (bif decide (r2.size + a1.size ≤ 140737488351232) then (impl_SecretOf.f k (r2 ++ a1)).bind fun r3 => (impl_PowP.f k (4 : Int) r3).bind fun r4 => (impl_PublicOf.f k a0).bind fun r5 => (impl_Challenge.f k r4 r5 a1).bind fun r6 => some (r6, ((IntKind.i64.wrap (r3 + (IntKind.i64.wrap (r6 * a0)))).tmod (1073741789 : Int)), true) else none))
def impl_SignText.K : Ctr := ⟨impl_SignText.ps, impl_SignText.rs, false, (.two (.int .i64) .str), (.two (.int .i64) (.two (.int .i64) .bool)), fun k x => impl_SignText.f k x.1 x.2⟩
theorem impl_SignText.eq (k : Nat) (x : (impl_SignText.K.I).den) : func impl_SignText.x impl_SignText.h impl_SignText.ps impl_SignText.rs impl_SignText.vs impl_SignText.K.I impl_SignText.K.O impl_SignText.c k x = impl_SignText.K.run k x := by
  show _ = impl_SignText.f k x.1 x.2
  kernel_rfl
theorem impl_SignText.ok : CtrOk Tryz.prog 64 impl_SignText.K :=
  CtrOk.of (fn := Tryz.f64) (cd := impl_SignText.c) (cx := impl_SignText.x) (hs := impl_SignText.h) (by kernel_rfl) (by kernel_rfl) (by kernel_rfl) (by kernel_rfl) tt_ok (envOk_cons impl_secretOk.ok (envOk_cons impl_NumberText.ok (envOk_cons impl_SecretOf.ok (envOk_cons impl_PowP.ok (envOk_cons impl_PublicOf.ok (envOk_cons impl_Challenge.ok (envOk_nil))))))) (by kernel_rfl) (by kernel_rfl) (by kernel_rfl) (by kernel_rfl) fun k x r h => (impl_SignText.eq k x).trans h
/-! impl.sigOk -/
noncomputable def impl_sigOk.c : Code := bodyOf Tryz.f84
def impl_sigOk.h : Nat → Hint := look ⟨[], [], []⟩ []
def impl_sigOk.ps : List PK := [.agg 2]
def impl_sigOk.rs : List RK := [.one true]
def impl_sigOk.vs : List ResultVar := [.tmp 2]
def impl_sigOk.x : Cx := ⟨tt, look none [(44, some impl_within.K)]⟩
def impl_sigOk.f (k : Nat) (a0_0 : Int) (a0_1 : Int) : Option (Bool) :=
  (impl_within.f k a0_0 (0 : Int) (1073741788 : Int)).bind fun r1 => (bif r1 then (impl_within.f k a0_1 (0 : Int) (1073741788 : Int)).bind fun r2 => some r2 else some false)
def impl_sigOk.K : Ctr := ⟨impl_sigOk.ps, impl_sigOk.rs, false, (.two (.int .i64) (.int .i64)), .bool, fun k x => impl_sigOk.f k x.1 x.2⟩
theorem impl_sigOk.eq (k : Nat) (x : (impl_sigOk.K.I).den) : func impl_sigOk.x impl_sigOk.h impl_sigOk.ps impl_sigOk.rs impl_sigOk.vs impl_sigOk.K.I impl_sigOk.K.O impl_sigOk.c k x = impl_sigOk.K.run k x := by
  show _ = impl_sigOk.f k x.1 x.2
  kernel_rfl
theorem impl_sigOk.ok : CtrOk Tryz.prog 84 impl_sigOk.K :=
  CtrOk.of (fn := Tryz.f84) (cd := impl_sigOk.c) (cx := impl_sigOk.x) (hs := impl_sigOk.h) (by kernel_rfl) (by kernel_rfl) (by kernel_rfl) (by kernel_rfl) tt_ok (envOk_cons impl_within.ok (envOk_nil)) (by kernel_rfl) (by kernel_rfl) (by kernel_rfl) (by kernel_rfl) fun k x r h => (impl_sigOk.eq k x).trans h
/-! impl.SigText -/
noncomputable def impl_SigText.c : Code := bodyOf Tryz.f65
def impl_SigText.h : Nat → Hint := look ⟨[], [], []⟩ []
def impl_SigText.ps : List PK := [.agg 2]
def impl_SigText.rs : List RK := [.one true, .one true]
def impl_SigText.vs : List ResultVar := [.tmp 2, .tmp 3]
def impl_SigText.x : Cx := ⟨tt, look none [(84, some impl_sigOk.K), (39, some impl_NumberText.K)]⟩
def impl_SigText.f (k : Nat) (a0_0 : Int) (a0_1 : Int) : Option (ByteArray × Bool) :=
  (impl_sigOk.f k a0_0 a0_1).bind fun r1 => (bif (!r1) then some (ByteArray.empty, false) else (impl_NumberText.f k a0_0).bind fun r2 => (impl_NumberText.f k a0_1).bind fun r3 => (bif decide (r2.size + r3.size ≤ 140737488351232) then some ((r2 ++ r3), true) else none))
def impl_SigText.K : Ctr := ⟨impl_SigText.ps, impl_SigText.rs, false, (.two (.int .i64) (.int .i64)), (.two .str .bool), fun k x => impl_SigText.f k x.1 x.2⟩
theorem impl_SigText.eq (k : Nat) (x : (impl_SigText.K.I).den) : func impl_SigText.x impl_SigText.h impl_SigText.ps impl_SigText.rs impl_SigText.vs impl_SigText.K.I impl_SigText.K.O impl_SigText.c k x = impl_SigText.K.run k x := by
  show _ = impl_SigText.f k x.1 x.2
  kernel_rfl
theorem impl_SigText.ok : CtrOk Tryz.prog 65 impl_SigText.K :=
  CtrOk.of (fn := Tryz.f65) (cd := impl_SigText.c) (cx := impl_SigText.x) (hs := impl_SigText.h) (by kernel_rfl) (by kernel_rfl) (by kernel_rfl) (by kernel_rfl) tt_ok (envOk_cons impl_sigOk.ok (envOk_cons impl_NumberText.ok (envOk_nil))) (by kernel_rfl) (by kernel_rfl) (by kernel_rfl) (by kernel_rfl) fun k x r h => (impl_SigText.eq k x).trans h
/-! impl.Proof -/
noncomputable def impl_Proof.c : Code := bodyOf Tryz.f50
def impl_Proof.h : Nat → Hint := look ⟨[], [], []⟩ []
def impl_Proof.ps : List PK := [.agg 7]
def impl_Proof.rs : List RK := [.one true]
def impl_Proof.vs : List ResultVar := [.tmp 2]
def impl_Proof.x : Cx := ⟨tt, look none [(10, some impl_Transcript.K), (49, some impl_byteText.K), (64, some impl_SignText.K), (65, some impl_SigText.K)]⟩
def impl_Proof.f (k : Nat) (a0_0 : Int) (a0_1 : Int) (a0_2 : Int) (a0_3 : Int) (a0_4 : Int) (a0_5 : ByteArray) (a0_6 : ByteArray) : Option (ByteArray) :=
  (bif (a0_4 != (2 : Int)) then (bif (a0_4 != (3 : Int)) then some ByteArray.empty else (impl_Transcript.f k a0_0 a0_1 a0_2 a0_3 a0_4 a0_5 a0_6).bind fun r1 => (impl_byteText.f k a0_0).bind fun r2 => (bif decide (r1.size + r2.size ≤ 140737488351232) then (impl_SignText.f k a0_1 (r1 ++ r2)).bind fun r3 => (impl_SigText.f k r3.1 r3.2.1).bind fun r4 => (bif decide ((⟨#[112]⟩ : ByteArray).size + r4.1.size ≤ 140737488351232) then some ((⟨#[112]⟩ : ByteArray) ++ r4.1) else none) else none)) else (impl_Transcript.f k a0_0 a0_1 a0_2 a0_3 a0_4 a0_5 a0_6).bind fun r5 => (impl_byteText.f k a0_0).bind fun r6 => (bif decide (r5.size + r6.size ≤ 140737488351232) then (impl_SignText.f k a0_1 (r5 ++ r6)).bind fun r7 => (impl_SigText.f k r7.1 r7.2.1).bind fun r8 => (bif decide ((⟨#[112]⟩ : ByteArray).size + r8.1.size ≤ 140737488351232) then some ((⟨#[112]⟩ : ByteArray) ++ r8.1) else none) else none))
def impl_Proof.K : Ctr := ⟨impl_Proof.ps, impl_Proof.rs, false, (.two (.int .i64) (.two (.int .i64) (.two (.int .i64) (.two (.int .i64) (.two (.int .i64) (.two .str .str)))))), .str, fun k x => impl_Proof.f k x.1 x.2.1 x.2.2.1 x.2.2.2.1 x.2.2.2.2.1 x.2.2.2.2.2.1 x.2.2.2.2.2.2⟩
theorem impl_Proof.eq (k : Nat) (x : (impl_Proof.K.I).den) : func impl_Proof.x impl_Proof.h impl_Proof.ps impl_Proof.rs impl_Proof.vs impl_Proof.K.I impl_Proof.K.O impl_Proof.c k x = impl_Proof.K.run k x := by
  show _ = impl_Proof.f k x.1 x.2.1 x.2.2.1 x.2.2.2.1 x.2.2.2.2.1 x.2.2.2.2.2.1 x.2.2.2.2.2.2
  kernel_rfl
theorem impl_Proof.ok : CtrOk Tryz.prog 50 impl_Proof.K :=
  CtrOk.of (fn := Tryz.f50) (cd := impl_Proof.c) (cx := impl_Proof.x) (hs := impl_Proof.h) (by kernel_rfl) (by kernel_rfl) (by kernel_rfl) (by kernel_rfl) tt_ok (envOk_cons impl_Transcript.ok (envOk_cons impl_byteText.ok (envOk_cons impl_SignText.ok (envOk_cons impl_SigText.ok (envOk_nil))))) (by kernel_rfl) (by kernel_rfl) (by kernel_rfl) (by kernel_rfl) fun k x r h => (impl_Proof.eq k x).trans h
/-! impl.ReadSig -/
noncomputable def impl_ReadSig.c : Code := bodyOf Tryz.f66
def impl_ReadSig.h : Nat → Hint := look ⟨[], [], []⟩ []
def impl_ReadSig.ps : List PK := [.one]
def impl_ReadSig.rs : List RK := [.agg 2 true, .one true]
def impl_ReadSig.vs : List ResultVar := [.cell 2 83, .tmp 3]
def impl_ReadSig.x : Cx := ⟨tt, look none [(60, some impl_ReadNumber.K), (84, some impl_sigOk.K)]⟩
def impl_ReadSig.f (k : Nat) (a0 : ByteArray) : Option (Int × Int × Bool) :=
  (bif ((a0.size : Int) != (8 : Int)) then some ((0 : Int), (0 : Int), false) else (bif (true && (decide ((4 : Int) ≤ (a0.size : Int)))) then (impl_ReadNumber.f k (a0.extract 0 4)).bind fun r1 => (bif (true && (decide ((4 : Int) ≤ (a0.size : Int)))) then (impl_ReadNumber.f k (a0.extract 4 a0.size)).bind fun r2 => (impl_sigOk.f k r1.1 r2.1).bind fun r3 => (bif (!r3) then some ((0 : Int), (0 : Int), false) else some (r1.1, r2.1, true)) else none) else none))
def impl_ReadSig.K : Ctr := ⟨impl_ReadSig.ps, impl_ReadSig.rs, false, .str, (.two (.int .i64) (.two (.int .i64) .bool)), fun k x => impl_ReadSig.f k x⟩
theorem impl_ReadSig.eq (k : Nat) (x : (impl_ReadSig.K.I).den) : func impl_ReadSig.x impl_ReadSig.h impl_ReadSig.ps impl_ReadSig.rs impl_ReadSig.vs impl_ReadSig.K.I impl_ReadSig.K.O impl_ReadSig.c k x = impl_ReadSig.K.run k x := by
  show _ = impl_ReadSig.f k x
  kernel_rfl
theorem impl_ReadSig.ok : CtrOk Tryz.prog 66 impl_ReadSig.K :=
  CtrOk.of (fn := Tryz.f66) (cd := impl_ReadSig.c) (cx := impl_ReadSig.x) (hs := impl_ReadSig.h) (by kernel_rfl) (by kernel_rfl) (by kernel_rfl) (by kernel_rfl) tt_ok (envOk_cons impl_ReadNumber.ok (envOk_cons impl_sigOk.ok (envOk_nil))) (by kernel_rfl) (by kernel_rfl) (by kernel_rfl) (by kernel_rfl) fun k x r h => (impl_ReadSig.eq k x).trans h
/-! impl.MulP -/
noncomputable def impl_MulP.c : Code := bodyOf Tryz.f85
def impl_MulP.h : Nat → Hint := look ⟨[], [], []⟩ []
def impl_MulP.ps : List PK := [.one, .one]
def impl_MulP.rs : List RK := [.one true]
def impl_MulP.vs : List ResultVar := [.tmp 4]
def impl_MulP.x : Cx := ⟨tt, look none [(62, some impl_inPrime.K)]⟩
def impl_MulP.f (k : Nat) (a0 : Int) (a1 : Int) : Option (Int) :=
  (impl_inPrime.f k a0).bind fun r1 => (impl_inPrime.f k a1).bind fun r2 => some ((IntKind.i64.wrap (r1 * r2)).tmod (2147483579 : Int))
def impl_MulP.K : Ctr := ⟨impl_MulP.ps, impl_MulP.rs, false, (.two (.int .i64) (.int .i64)), (.int .i64), fun k x => impl_MulP.f k x.1 x.2⟩
theorem impl_MulP.eq (k : Nat) (x : (impl_MulP.K.I).den) : func impl_MulP.x impl_MulP.h impl_MulP.ps impl_MulP.rs impl_MulP.vs impl_MulP.K.I impl_MulP.K.O impl_MulP.c k x = impl_MulP.K.run k x := by
  show _ = impl_MulP.f k x.1 x.2
  kernel_rfl
theorem impl_MulP.ok : CtrOk Tryz.prog 85 impl_MulP.K :=
  CtrOk.of (fn := Tryz.f85) (cd := impl_MulP.c) (cx := impl_MulP.x) (hs := impl_MulP.h) (by kernel_rfl) (by kernel_rfl) (by kernel_rfl) (by kernel_rfl) tt_ok (envOk_cons impl_inPrime.ok (envOk_nil)) (by kernel_rfl) (by kernel_rfl) (by kernel_rfl) (by kernel_rfl) fun k x r h => (impl_MulP.eq k x).trans h
/-! impl.CheckText -/
noncomputable def impl_CheckText.c : Code := bodyOf Tryz.f67
def impl_CheckText.h : Nat → Hint := look ⟨[], [], []⟩ []
def impl_CheckText.ps : List PK := [.one, .one, .agg 2]
def impl_CheckText.rs : List RK := [.one true]
def impl_CheckText.vs : List ResultVar := [.tmp 6]
def impl_CheckText.x : Cx := ⟨tt, look none [(45, some impl_InGroup.K), (84, some impl_sigOk.K), (47, some impl_PowP.K), (85, some impl_MulP.K), (83, some impl_Challenge.K)]⟩
def impl_CheckText.f (k : Nat) (a0 : Int) (a1 : ByteArray) (a2_0 : Int) (a2_1 : Int) : Option (Bool) :=
  (impl_InGroup.f k a0).bind fun r1 => (bif (!r1) then some false else (impl_sigOk.f k a2_0 a2_1).bind fun r2 => (bif (!r2) then some false else (impl_PowP.f k (4 : Int) a2_1).bind fun r3 => (impl_PowP.f k a0 (IntKind.i64.wrap ((1073741789 : Int) - a2_0))).bind fun r4 => (impl_MulP.f k r3 r4).bind fun r5 => (impl_Challenge.f k r5 a0 a1).bind fun r6 => some (a2_0 == r6)))
def impl_CheckText.K : Ctr := ⟨impl_CheckText.ps, impl_CheckText.rs, false, (.two (.int .i64) (.two .str (.two (.int .i64) (.int .i64)))), .bool, fun k x => impl_CheckText.f k x.1 x.2.1 x.2.2.1 x.2.2.2⟩
theorem impl_CheckText.eq (k : Nat) (x : (impl_CheckText.K.I).den) : func impl_CheckText.x impl_CheckText.h impl_CheckText.ps impl_CheckText.rs impl_CheckText.vs impl_CheckText.K.I impl_CheckText.K.O impl_CheckText.c k x = impl_CheckText.K.run k x := by
  show _ = impl_CheckText.f k x.1 x.2.1 x.2.2.1 x.2.2.2
  kernel_rfl
theorem impl_CheckText.ok : CtrOk Tryz.prog 67 impl_CheckText.K :=
  CtrOk.of (fn := Tryz.f67) (cd := impl_CheckText.c) (cx := impl_CheckText.x) (hs := impl_CheckText.h) (by kernel_rfl) (by kernel_rfl) (by kernel_rfl) (by kernel_rfl) tt_ok (envOk_cons impl_InGroup.ok (envOk_cons impl_sigOk.ok (envOk_cons impl_PowP.ok (envOk_cons impl_MulP.ok (envOk_cons impl_Challenge.ok (envOk_nil)))))) (by kernel_rfl) (by kernel_rfl) (by kernel_rfl) (by kernel_rfl) fun k x r h => (impl_CheckText.eq k x).trans h
/-! impl.proved -/
noncomputable def impl_proved.c : Code := bodyOf Tryz.f51
def impl_proved.h : Nat → Hint := look ⟨[], [], []⟩ []
def impl_proved.ps : List PK := [.agg 7, .one]
def impl_proved.rs : List RK := [.one true]
def impl_proved.vs : List ResultVar := [.tmp 4]
def impl_proved.x : Cx := ⟨tt, look none [(66, some impl_ReadSig.K), (10, some impl_Transcript.K), (36, some impl_otherRole.K), (49, some impl_byteText.K), (67, some impl_CheckText.K)]⟩
def impl_proved.f (k : Nat) (a0_0 : Int) (a0_1 : Int) (a0_2 : Int) (a0_3 : Int) (a0_4 : Int) (a0_5 : ByteArray) (a0_6 : ByteArray) (a1 : ByteArray) : Option (Bool) :=
  (bif ((a1.size : Int) != (9 : Int)) then some false else (a1[0]?).bind fun c1 => (bif ((c1.toNat : Int) != (112 : Int)) then some false else (bif (true && (decide ((1 : Int) ≤ (a1.size : Int)))) then (impl_ReadSig.f k (a1.extract 1 a1.size)).bind fun r2 => (bif r2.2.2 then (impl_Transcript.f k a0_0 a0_1 a0_2 a0_3 a0_4 a0_5 a0_6).bind fun r3 => (impl_otherRole.f k a0_0 a0_1 a0_2 a0_3 a0_4 a0_5 a0_6).bind fun r4 => (impl_byteText.f k r4).bind fun r5 => (bif decide (r3.size + r5.size ≤ 140737488351232) then (impl_CheckText.f k a0_2 (r3 ++ r5) r2.1 r2.2.1).bind fun r6 => some r6 else none) else some false) else none)))
def impl_proved.K : Ctr := ⟨impl_proved.ps, impl_proved.rs, false, (.two (.int .i64) (.two (.int .i64) (.two (.int .i64) (.two (.int .i64) (.two (.int .i64) (.two .str (.two .str .str))))))), .bool, fun k x => impl_proved.f k x.1 x.2.1 x.2.2.1 x.2.2.2.1 x.2.2.2.2.1 x.2.2.2.2.2.1 x.2.2.2.2.2.2.1 x.2.2.2.2.2.2.2⟩
theorem impl_proved.eq (k : Nat) (x : (impl_proved.K.I).den) : func impl_proved.x impl_proved.h impl_proved.ps impl_proved.rs impl_proved.vs impl_proved.K.I impl_proved.K.O impl_proved.c k x = impl_proved.K.run k x := by
  show _ = impl_proved.f k x.1 x.2.1 x.2.2.1 x.2.2.2.1 x.2.2.2.2.1 x.2.2.2.2.2.1 x.2.2.2.2.2.2.1 x.2.2.2.2.2.2.2
  kernel_rfl
theorem impl_proved.ok : CtrOk Tryz.prog 51 impl_proved.K :=
  CtrOk.of (fn := Tryz.f51) (cd := impl_proved.c) (cx := impl_proved.x) (hs := impl_proved.h) (by kernel_rfl) (by kernel_rfl) (by kernel_rfl) (by kernel_rfl) tt_ok (envOk_cons impl_ReadSig.ok (envOk_cons impl_Transcript.ok (envOk_cons impl_otherRole.ok (envOk_cons impl_byteText.ok (envOk_cons impl_CheckText.ok (envOk_nil)))))) (by kernel_rfl) (by kernel_rfl) (by kernel_rfl) (by kernel_rfl) fun k x r h => (impl_proved.eq k x).trans h
/-! impl.HearGreet -/
noncomputable def impl_HearGreet.c : Code := bodyOf Tryz.f29
def impl_HearGreet.h : Nat → Hint := look ⟨[], [], []⟩ []
def impl_HearGreet.ps : List PK := [.agg 7, .one]
def impl_HearGreet.rs : List RK := [.agg 7 true, .one true]
def impl_HearGreet.vs : List ResultVar := [.cell 4 32, .tmp 5]
def impl_HearGreet.x : Cx := ⟨tt, look none [(36, some impl_otherRole.K), (35, some impl_greeted.K), (50, some impl_Proof.K), (51, some impl_proved.K)]⟩
def impl_HearGreet.f (k : Nat) (a0_0 : Int) (a0_1 : Int) (a0_2 : Int) (a0_3 : Int) (a0_4 : Int) (a0_5 : ByteArray) (a0_6 : ByteArray) (a1 : ByteArray) : Option (Int × Int × Int × Int × Int × ByteArray × ByteArray × ByteArray) :=
  (bif (a0_4 == (1 : Int)) then (impl_otherRole.f k a0_0 a0_1 a0_2 a0_3 a0_4 a0_5 a0_6).bind fun r1 => (impl_greeted.f k a1 r1).bind fun r2 => (bif r2.2 then (impl_Proof.f k a0_0 a0_1 a0_2 a0_3 (2 : Int) a0_5 a1).bind fun r3 => some (a0_0, a0_1, a0_2, a0_3, (2 : Int), a0_5, a1, r3) else some (a0_0, a0_1, a0_2, a0_3, (4 : Int), a0_5, a0_6, ByteArray.empty)) else (bif (a0_4 == (2 : Int)) then (impl_proved.f k a0_0 a0_1 a0_2 a0_3 a0_4 a0_5 a0_6 a1).bind fun r4 => (bif r4 then some (a0_0, a0_1, a0_2, a0_3, (3 : Int), a0_5, a0_6, ByteArray.empty) else some (a0_0, a0_1, a0_2, a0_3, (4 : Int), a0_5, a0_6, ByteArray.empty)) else some (a0_0, a0_1, a0_2, a0_3, a0_4, a0_5, a0_6, ByteArray.empty)))
def impl_HearGreet.K : Ctr := ⟨impl_HearGreet.ps, impl_HearGreet.rs, false, (.two (.int .i64) (.two (.int .i64) (.two (.int .i64) (.two (.int .i64) (.two (.int .i64) (.two .str (.two .str .str))))))), (.two (.int .i64) (.two (.int .i64) (.two (.int .i64) (.two (.int .i64) (.two (.int .i64) (.two .str (.two .str .str))))))), fun k x => impl_HearGreet.f k x.1 x.2.1 x.2.2.1 x.2.2.2.1 x.2.2.2.2.1 x.2.2.2.2.2.1 x.2.2.2.2.2.2.1 x.2.2.2.2.2.2.2⟩
theorem impl_HearGreet.eq (k : Nat) (x : (impl_HearGreet.K.I).den) : func impl_HearGreet.x impl_HearGreet.h impl_HearGreet.ps impl_HearGreet.rs impl_HearGreet.vs impl_HearGreet.K.I impl_HearGreet.K.O impl_HearGreet.c k x = impl_HearGreet.K.run k x := by
  show _ = impl_HearGreet.f k x.1 x.2.1 x.2.2.1 x.2.2.2.1 x.2.2.2.2.1 x.2.2.2.2.2.1 x.2.2.2.2.2.2.1 x.2.2.2.2.2.2.2
  kernel_rfl
theorem impl_HearGreet.ok : CtrOk Tryz.prog 29 impl_HearGreet.K :=
  CtrOk.of (fn := Tryz.f29) (cd := impl_HearGreet.c) (cx := impl_HearGreet.x) (hs := impl_HearGreet.h) (by kernel_rfl) (by kernel_rfl) (by kernel_rfl) (by kernel_rfl) tt_ok (envOk_cons impl_otherRole.ok (envOk_cons impl_greeted.ok (envOk_cons impl_Proof.ok (envOk_cons impl_proved.ok (envOk_nil))))) (by kernel_rfl) (by kernel_rfl) (by kernel_rfl) (by kernel_rfl) fun k x r h => (impl_HearGreet.eq k x).trans h
end Go.Proofs.YtpinehfjimphmaaGreat.DI
