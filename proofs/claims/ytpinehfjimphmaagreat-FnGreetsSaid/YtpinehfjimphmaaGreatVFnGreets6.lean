/- FnGreets: functions as plain Lean, in the machine of values. -/
import Derived.Test.YtpinehfjimphmaaGreatVFnGreets5
namespace Go.Proofs.YtpinehfjimphmaaGreat.DI
open Go
set_option linter.unusedVariables false
/-! spec.l07First -/
noncomputable def spec_l07First.c : Code := bodyOf Tryz.f55
def spec_l07First.h : Nat → Hint := look ⟨[], [], []⟩ []
def spec_l07First.ps : List PK := [.one]
def spec_l07First.rs : List RK := [.one true]
def spec_l07First.vs : List ResultVar := [.tmp 2]
def spec_l07First.x : Cx := ⟨tt, look none [(69, some spec_ReadNumber.K)]⟩
def spec_l07First.f (k : Nat) (a0 : ByteArray) : Option (Int) :=
  (bif (true && (decide ((4 : Int) ≤ (a0.size : Int)))) then (spec_ReadNumber.f k (a0.extract 0 4)).bind fun r1 => some r1.1 else none)
def spec_l07First.K : Ctr := ⟨spec_l07First.ps, spec_l07First.rs, false, .str, (.int .i64), fun k x => spec_l07First.f k x⟩
theorem spec_l07First.eq (k : Nat) (x : (spec_l07First.K.I).den) : func spec_l07First.x spec_l07First.h spec_l07First.ps spec_l07First.rs spec_l07First.vs spec_l07First.K.I spec_l07First.K.O spec_l07First.c k x = spec_l07First.K.run k x := by
  show _ = spec_l07First.f k x
  kernel_rfl
theorem spec_l07First.ok : CtrOk Tryz.prog 55 spec_l07First.K :=
  CtrOk.of (fn := Tryz.f55) (cd := spec_l07First.c) (cx := spec_l07First.x) (hs := spec_l07First.h) (by kernel_rfl) (by kernel_rfl) (by kernel_rfl) (by kernel_rfl) tt_ok (envOk_cons spec_ReadNumber.ok (envOk_nil)) (by kernel_rfl) (by kernel_rfl) (by kernel_rfl) (by kernel_rfl) fun k x r h => (spec_l07First.eq k x).trans h
/-! spec.SecretOf -/
noncomputable def spec_SecretOf.c : Code := bodyOf Tryz.f32
def spec_SecretOf.h : Nat → Hint := look ⟨[], [], []⟩ []
def spec_SecretOf.ps : List PK := [.one]
def spec_SecretOf.rs : List RK := [.one true]
def spec_SecretOf.vs : List ResultVar := [.tmp 2]
def spec_SecretOf.x : Cx := ⟨tt, look none [(56, some spec_DigestOf.K), (55, some spec_l07First.K)]⟩
def spec_SecretOf.f (k : Nat) (a0 : ByteArray) : Option (Int) :=
  (bif decide (a0.size + (⟨#[115]⟩ : ByteArray).size ≤ 140737488351232) then (spec_DigestOf.f k (a0 ++ (⟨#[115]⟩ : ByteArray))).bind fun r1 => (spec_l07First.f k r1).bind fun r2 => some (IntKind.i64.wrap ((1 : Int) + (r2.tmod (1073741788 : Int)))) else none)
def spec_SecretOf.K : Ctr := ⟨spec_SecretOf.ps, spec_SecretOf.rs, false, .str, (.int .i64), fun k x => spec_SecretOf.f k x⟩
theorem spec_SecretOf.eq (k : Nat) (x : (spec_SecretOf.K.I).den) : func spec_SecretOf.x spec_SecretOf.h spec_SecretOf.ps spec_SecretOf.rs spec_SecretOf.vs spec_SecretOf.K.I spec_SecretOf.K.O spec_SecretOf.c k x = spec_SecretOf.K.run k x := by
  show _ = spec_SecretOf.f k x
  kernel_rfl
theorem spec_SecretOf.ok : CtrOk Tryz.prog 32 spec_SecretOf.K :=
  CtrOk.of (fn := Tryz.f32) (cd := spec_SecretOf.c) (cx := spec_SecretOf.x) (hs := spec_SecretOf.h) (by kernel_rfl) (by kernel_rfl) (by kernel_rfl) (by kernel_rfl) tt_ok (envOk_cons spec_DigestOf.ok (envOk_cons spec_l07First.ok (envOk_nil))) (by kernel_rfl) (by kernel_rfl) (by kernel_rfl) (by kernel_rfl) fun k x r h => (spec_SecretOf.eq k x).trans h
/-! spec.l03Mod -/
noncomputable def spec_l03Mod.c : Code := bodyOf Tryz.f68
def spec_l03Mod.h : Nat → Hint := look ⟨[], [], []⟩ []
def spec_l03Mod.ps : List PK := [.one]
def spec_l03Mod.rs : List RK := [.one true]
def spec_l03Mod.vs : List ResultVar := [.tmp 2]
def spec_l03Mod.x : Cx := ⟨tt, look none []⟩
def spec_l03Mod.f (_k : Nat) (a0 : Int) : Option (Int) :=
  (bif (decide ((a0.tmod (2147483579 : Int)) < (0 : Int))) then some (IntKind.i64.wrap ((a0.tmod (2147483579 : Int)) + (2147483579 : Int))) else some (a0.tmod (2147483579 : Int)))
def spec_l03Mod.K : Ctr := ⟨spec_l03Mod.ps, spec_l03Mod.rs, false, (.int .i64), (.int .i64), fun k x => spec_l03Mod.f k x⟩
theorem spec_l03Mod.eq (k : Nat) (x : (spec_l03Mod.K.I).den) : func spec_l03Mod.x spec_l03Mod.h spec_l03Mod.ps spec_l03Mod.rs spec_l03Mod.vs spec_l03Mod.K.I spec_l03Mod.K.O spec_l03Mod.c k x = spec_l03Mod.K.run k x := by
  show _ = spec_l03Mod.f k x
  kernel_rfl
theorem spec_l03Mod.ok : CtrOk Tryz.prog 68 spec_l03Mod.K :=
  CtrOk.of (fn := Tryz.f68) (cd := spec_l03Mod.c) (cx := spec_l03Mod.x) (hs := spec_l03Mod.h) (by kernel_rfl) (by kernel_rfl) (by kernel_rfl) (by kernel_rfl) tt_ok (envOk_nil) (by kernel_rfl) (by kernel_rfl) (by kernel_rfl) (by kernel_rfl) fun k x r h => (spec_l03Mod.eq k x).trans h
/-! spec.PowP -/
noncomputable def spec_PowP.c : Code := bodyOf Tryz.f54
def spec_PowP.h : Nat → Hint := look ⟨[], [], []⟩ [(0, ⟨[0, 1, 5], [], []⟩)]
def spec_PowP.ps : List PK := [.one, .one]
def spec_PowP.rs : List RK := [.one true]
def spec_PowP.vs : List ResultVar := [.tmp 4]
def spec_PowP.x : Cx := ⟨tt, look none [(52, some spec_l01In.K), (68, some spec_l03Mod.K)]⟩
def spec_PowP.s0 (_k : Nat) (rec0 : (Int × Int × Int) → Option (Int)) (p : (Int × Int × Int)) : Option (Int) :=
  (bif (decide (p.2.1 > (0 : Int))) then (bif ((p.2.1.tmod (2 : Int)) == (1 : Int)) then rec0 (((IntKind.i64.wrap (p.1 * p.1)).tmod (2147483579 : Int)), (IntKind.i64.wrap (p.2.1.tdiv (2 : Int))), ((IntKind.i64.wrap (p.2.2 * p.1)).tmod (2147483579 : Int))) else rec0 (((IntKind.i64.wrap (p.1 * p.1)).tmod (2147483579 : Int)), (IntKind.i64.wrap (p.2.1.tdiv (2 : Int))), p.2.2)) else some p.2.2)
def spec_PowP.l0 (k : Nat) : Nat → (Int × Int × Int) → Option (Int)
  | 0 => fun _ => none
  | j + 1 => spec_PowP.s0 k (spec_PowP.l0 k j)
def spec_PowP.S0 (p : (Int × Int × Int)) : DS := ⟨tl [(0, .at (.int .i64 p.1)), (1, .at (.int .i64 p.2.1)), (5, .at (.int .i64 p.2.2))], lookO []⟩
noncomputable def spec_PowP.D0 (k : Nat) (j : Nat) (p : (Int × Int × Int)) : Option (Int) := loopK (normK [] (spec_PowP.h 0)) (runK spec_PowP.x k 0 [] spec_PowP.h 0 (sub spec_PowP.c [1, 1, 1, 1, 0, 0, 0])) j (spec_PowP.S0 p) (kBlk 0 (kSeq (runK spec_PowP.x k 0 [] spec_PowP.h 0 (sub spec_PowP.c [1, 1, 1, 1, 1])) (fin tt spec_PowP.ps spec_PowP.rs spec_PowP.vs (.int .i64))))
theorem spec_PowP.D0_eq (k : Nat) : ∀ j, spec_PowP.D0 k j = spec_PowP.l0 k j := by
  intro j
  induction j with
  | zero => rfl
  | succ j ih =>
    show _ = spec_PowP.s0 k (spec_PowP.l0 k j)
    rw [← ih]
    funext p
    kernel_rfl
def spec_PowP.f (k : Nat) (a0 : Int) (a1 : Int) : Option (Int) :=
  (spec_l01In.f k a1 (0 : Int) (2147483579 : Int)).bind fun r1 => (bif (!r1) then some (0 : Int) else (spec_l03Mod.f k a0).bind fun r2 => spec_PowP.l0 k k (r2, a1, (1 : Int)))
def spec_PowP.K : Ctr := ⟨spec_PowP.ps, spec_PowP.rs, false, (.two (.int .i64) (.int .i64)), (.int .i64), fun k x => spec_PowP.f k x.1 x.2⟩
theorem spec_PowP.eq (k : Nat) (x : (spec_PowP.K.I).den) : func spec_PowP.x spec_PowP.h spec_PowP.ps spec_PowP.rs spec_PowP.vs spec_PowP.K.I spec_PowP.K.O spec_PowP.c k x = spec_PowP.K.run k x := by
  show _ = spec_PowP.f k x.1 x.2
  unfold spec_PowP.f
  rw [← spec_PowP.D0_eq k k]
  kernel_rfl
theorem spec_PowP.ok : CtrOk Tryz.prog 54 spec_PowP.K :=
  CtrOk.of (fn := Tryz.f54) (cd := spec_PowP.c) (cx := spec_PowP.x) (hs := spec_PowP.h) (by kernel_rfl) (by kernel_rfl) (by kernel_rfl) (by kernel_rfl) tt_ok (envOk_cons spec_l01In.ok (envOk_cons spec_l03Mod.ok (envOk_nil))) (by kernel_rfl) (by kernel_rfl) (by kernel_rfl) (by kernel_rfl) fun k x r h => (spec_PowP.eq k x).trans h
/-! spec.PublicOf -/
noncomputable def spec_PublicOf.c : Code := bodyOf Tryz.f31
def spec_PublicOf.h : Nat → Hint := look ⟨[], [], []⟩ []
def spec_PublicOf.ps : List PK := [.one]
def spec_PublicOf.rs : List RK := [.one true]
def spec_PublicOf.vs : List ResultVar := [.tmp 2]
def spec_PublicOf.x : Cx := ⟨tt, look none [(52, some spec_l01In.K), (54, some spec_PowP.K)]⟩
def spec_PublicOf.f (k : Nat) (a0 : Int) : Option (Int) :=
  (spec_l01In.f k a0 (1 : Int) (1073741788 : Int)).bind fun r1 => (bif (!r1) then some (0 : Int) else (spec_PowP.f k (4 : Int) a0).bind fun r2 => some r2)
def spec_PublicOf.K : Ctr := ⟨spec_PublicOf.ps, spec_PublicOf.rs, false, (.int .i64), (.int .i64), fun k x => spec_PublicOf.f k x⟩
theorem spec_PublicOf.eq (k : Nat) (x : (spec_PublicOf.K.I).den) : func spec_PublicOf.x spec_PublicOf.h spec_PublicOf.ps spec_PublicOf.rs spec_PublicOf.vs spec_PublicOf.K.I spec_PublicOf.K.O spec_PublicOf.c k x = spec_PublicOf.K.run k x := by
  show _ = spec_PublicOf.f k x
  kernel_rfl
theorem spec_PublicOf.ok : CtrOk Tryz.prog 31 spec_PublicOf.K :=
  CtrOk.of (fn := Tryz.f31) (cd := spec_PublicOf.c) (cx := spec_PublicOf.x) (hs := spec_PublicOf.h) (by kernel_rfl) (by kernel_rfl) (by kernel_rfl) (by kernel_rfl) tt_ok (envOk_cons spec_l01In.ok (envOk_cons spec_PowP.ok (envOk_nil))) (by kernel_rfl) (by kernel_rfl) (by kernel_rfl) (by kernel_rfl) fun k x r h => (spec_PublicOf.eq k x).trans h
/-! spec.InGroup -/
noncomputable def spec_InGroup.c : Code := bodyOf Tryz.f53
def spec_InGroup.h : Nat → Hint := look ⟨[], [], []⟩ []
def spec_InGroup.ps : List PK := [.one]
def spec_InGroup.rs : List RK := [.one true]
def spec_InGroup.vs : List ResultVar := [.tmp 2]
def spec_InGroup.x : Cx := ⟨tt, look none [(52, some spec_l01In.K), (54, some spec_PowP.K)]⟩
def spec_InGroup.f (k : Nat) (a0 : Int) : Option (Bool) :=
  (spec_l01In.f k a0 (2 : Int) (2147483578 : Int)).bind fun r1 => (bif r1 then (spec_PowP.f k a0 (1073741789 : Int)).bind fun r2 => some (r2 == (1 : Int)) else some false)
def spec_InGroup.K : Ctr := ⟨spec_InGroup.ps, spec_InGroup.rs, false, (.int .i64), .bool, fun k x => spec_InGroup.f k x⟩
theorem spec_InGroup.eq (k : Nat) (x : (spec_InGroup.K.I).den) : func spec_InGroup.x spec_InGroup.h spec_InGroup.ps spec_InGroup.rs spec_InGroup.vs spec_InGroup.K.I spec_InGroup.K.O spec_InGroup.c k x = spec_InGroup.K.run k x := by
  show _ = spec_InGroup.f k x
  kernel_rfl
theorem spec_InGroup.ok : CtrOk Tryz.prog 53 spec_InGroup.K :=
  CtrOk.of (fn := Tryz.f53) (cd := spec_InGroup.c) (cx := spec_InGroup.x) (hs := spec_InGroup.h) (by kernel_rfl) (by kernel_rfl) (by kernel_rfl) (by kernel_rfl) tt_ok (envOk_cons spec_l01In.ok (envOk_cons spec_PowP.ok (envOk_nil))) (by kernel_rfl) (by kernel_rfl) (by kernel_rfl) (by kernel_rfl) fun k x r h => (spec_InGroup.eq k x).trans h
/-! spec.GreeterNew -/
noncomputable def spec_GreeterNew.c : Code := bodyOf Tryz.f30
def spec_GreeterNew.h : Nat → Hint := look ⟨[], [], []⟩ []
def spec_GreeterNew.ps : List PK := [.one, .one, .one, .one]
def spec_GreeterNew.rs : List RK := [.agg 7 true, .one true]
def spec_GreeterNew.vs : List ResultVar := [.cell 8 32, .tmp 9]
def spec_GreeterNew.x : Cx := ⟨tt, look none [(52, some spec_l01In.K), (53, some spec_InGroup.K), (32, some spec_SecretOf.K)]⟩
def spec_GreeterNew.f (k : Nat) (a0 : Int) (a1 : ByteArray) (a2 : ByteArray) (a3 : Int) : Option (Int × Int × Int × Int × Int × ByteArray × ByteArray × Bool) :=
  (spec_l01In.f k a0 (1 : Int) (2 : Int)).bind fun r1 => (bif (!r1) then some ((0 : Int), (0 : Int), (0 : Int), (0 : Int), (0 : Int), ByteArray.empty, ByteArray.empty, false) else (spec_InGroup.f k a3).bind fun r2 => (bif (!r2) then some ((0 : Int), (0 : Int), (0 : Int), (0 : Int), (0 : Int), ByteArray.empty, ByteArray.empty, false) else (spec_SecretOf.f k a1).bind fun r3 => (spec_SecretOf.f k a2).bind fun r4 => some (a0, r3, a3, r4, (0 : Int), ByteArray.empty, ByteArray.empty, true)))
def spec_GreeterNew.K : Ctr := ⟨spec_GreeterNew.ps, spec_GreeterNew.rs, false, (.two (.int .i64) (.two .str (.two .str (.int .i64)))), (.two (.int .i64) (.two (.int .i64) (.two (.int .i64) (.two (.int .i64) (.two (.int .i64) (.two .str (.two .str .bool))))))), fun k x => spec_GreeterNew.f k x.1 x.2.1 x.2.2.1 x.2.2.2⟩
theorem spec_GreeterNew.eq (k : Nat) (x : (spec_GreeterNew.K.I).den) : func spec_GreeterNew.x spec_GreeterNew.h spec_GreeterNew.ps spec_GreeterNew.rs spec_GreeterNew.vs spec_GreeterNew.K.I spec_GreeterNew.K.O spec_GreeterNew.c k x = spec_GreeterNew.K.run k x := by
  show _ = spec_GreeterNew.f k x.1 x.2.1 x.2.2.1 x.2.2.2
  kernel_rfl
theorem spec_GreeterNew.ok : CtrOk Tryz.prog 30 spec_GreeterNew.K :=
  CtrOk.of (fn := Tryz.f30) (cd := spec_GreeterNew.c) (cx := spec_GreeterNew.x) (hs := spec_GreeterNew.h) (by kernel_rfl) (by kernel_rfl) (by kernel_rfl) (by kernel_rfl) tt_ok (envOk_cons spec_l01In.ok (envOk_cons spec_InGroup.ok (envOk_cons spec_SecretOf.ok (envOk_nil)))) (by kernel_rfl) (by kernel_rfl) (by kernel_rfl) (by kernel_rfl) fun k x r h => (spec_GreeterNew.eq k x).trans h
/-! spec.l05Byte -/
noncomputable def spec_l05Byte.c : Code := bodyOf Tryz.f57
def spec_l05Byte.h : Nat → Hint := look ⟨[], [], []⟩ []
def spec_l05Byte.ps : List PK := [.one]
def spec_l05Byte.rs : List RK := [.one true]
def spec_l05Byte.vs : List ResultVar := [.tmp 2]
def spec_l05Byte.x : Cx := ⟨tt, look none []⟩
def spec_l05Byte.f (_k : Nat) (a0 : Int) : Option (ByteArray) :=
  (bif (decide ((a0.tmod (256 : Int)) < (0 : Int))) then some (strOfNums [(IntKind.u8.wrap (IntKind.i64.wrap ((a0.tmod (256 : Int)) + (256 : Int))))]) else some (strOfNums [(IntKind.u8.wrap (a0.tmod (256 : Int)))]))
def spec_l05Byte.K : Ctr := ⟨spec_l05Byte.ps, spec_l05Byte.rs, false, (.int .i64), .str, fun k x => spec_l05Byte.f k x⟩
theorem spec_l05Byte.eq (k : Nat) (x : (spec_l05Byte.K.I).den) : func spec_l05Byte.x spec_l05Byte.h spec_l05Byte.ps spec_l05Byte.rs spec_l05Byte.vs spec_l05Byte.K.I spec_l05Byte.K.O spec_l05Byte.c k x = spec_l05Byte.K.run k x := by
  show _ = spec_l05Byte.f k x
  kernel_rfl
theorem spec_l05Byte.ok : CtrOk Tryz.prog 57 spec_l05Byte.K :=
  CtrOk.of (fn := Tryz.f57) (cd := spec_l05Byte.c) (cx := spec_l05Byte.x) (hs := spec_l05Byte.h) (by kernel_rfl) (by kernel_rfl) (by kernel_rfl) (by kernel_rfl) tt_ok (envOk_nil) (by kernel_rfl) (by kernel_rfl) (by kernel_rfl) (by kernel_rfl) fun k x r h => (spec_l05Byte.eq k x).trans h
/-! spec.NumberText -/
noncomputable def spec_NumberText.c : Code := bodyOf Tryz.f58
def spec_NumberText.h : Nat → Hint := look ⟨[], [], []⟩ []
def spec_NumberText.ps : List PK := [.one]
def spec_NumberText.rs : List RK := [.one true]
def spec_NumberText.vs : List ResultVar := [.tmp 2]
def spec_NumberText.x : Cx := ⟨tt, look none [(52, some spec_l01In.K)]⟩
def spec_NumberText.f (k : Nat) (a0 : Int) : Option (ByteArray) :=
  (spec_l01In.f k a0 (0 : Int) (4294967295 : Int)).bind fun r1 => (bif (!r1) then some ByteArray.empty else some (strOfNums [(IntKind.u8.wrap (IntKind.i64.wrap (a0.tdiv (16777216 : Int)))), (IntKind.u8.wrap ((IntKind.i64.wrap (a0.tdiv (65536 : Int))).tmod (256 : Int))), (IntKind.u8.wrap ((IntKind.i64.wrap (a0.tdiv (256 : Int))).tmod (256 : Int))), (IntKind.u8.wrap (a0.tmod (256 : Int)))]))
def spec_NumberText.K : Ctr := ⟨spec_NumberText.ps, spec_NumberText.rs, false, (.int .i64), .str, fun k x => spec_NumberText.f k x⟩
theorem spec_NumberText.eq (k : Nat) (x : (spec_NumberText.K.I).den) : func spec_NumberText.x spec_NumberText.h spec_NumberText.ps spec_NumberText.rs spec_NumberText.vs spec_NumberText.K.I spec_NumberText.K.O spec_NumberText.c k x = spec_NumberText.K.run k x := by
  show _ = spec_NumberText.f k x
  kernel_rfl
theorem spec_NumberText.ok : CtrOk Tryz.prog 58 spec_NumberText.K :=
  CtrOk.of (fn := Tryz.f58) (cd := spec_NumberText.c) (cx := spec_NumberText.x) (hs := spec_NumberText.h) (by kernel_rfl) (by kernel_rfl) (by kernel_rfl) (by kernel_rfl) tt_ok (envOk_cons spec_l01In.ok (envOk_nil)) (by kernel_rfl) (by kernel_rfl) (by kernel_rfl) (by kernel_rfl) fun k x r h => (spec_NumberText.eq k x).trans h
/-! spec.Hello -/
noncomputable def spec_Hello.c : Code := bodyOf Tryz.f33
def spec_Hello.h : Nat → Hint := look ⟨[], [], []⟩ []
def spec_Hello.ps : List PK := [.agg 7]
def spec_Hello.rs : List RK := [.agg 7 true, .one true]
def spec_Hello.vs : List ResultVar := [.cell 2 32, .tmp 3]
def spec_Hello.x : Cx := ⟨tt, look none [(57, some spec_l05Byte.K), (31, some spec_PublicOf.K), (58, some spec_NumberText.K)]⟩
def spec_Hello.f (k : Nat) (a0_0 : Int) (a0_1 : Int) (a0_2 : Int) (a0_3 : Int) (a0_4 : Int) (a0_5 : ByteArray) (a0_6 : ByteArray) : Option (Int × Int × Int × Int × Int × ByteArray × ByteArray × ByteArray) :=
  (bif (a0_4 != (0 : Int)) then some (a0_0, a0_1, a0_2, a0_3, a0_4, a0_5, a0_6, ByteArray.empty) else (spec_l05Byte.f k a0_0).bind fun r1 => (bif decide ((⟨#[104]⟩ : ByteArray).size + r1.size ≤ 140737488351232) then (spec_PublicOf.f k a0_3).bind fun r2 => (spec_NumberText.f k r2).bind fun r3 => (bif decide (((⟨#[104]⟩ : ByteArray) ++ r1).size + r3.size ≤ 140737488351232) then some (a0_0, a0_1, a0_2, a0_3, (1 : Int), (((⟨#[104]⟩ : ByteArray) ++ r1) ++ r3), a0_6, (((⟨#[104]⟩ : ByteArray) ++ r1) ++ r3)) else none) else none))
def spec_Hello.K : Ctr := ⟨spec_Hello.ps, spec_Hello.rs, false, (.two (.int .i64) (.two (.int .i64) (.two (.int .i64) (.two (.int .i64) (.two (.int .i64) (.two .str .str)))))), (.two (.int .i64) (.two (.int .i64) (.two (.int .i64) (.two (.int .i64) (.two (.int .i64) (.two .str (.two .str .str))))))), fun k x => spec_Hello.f k x.1 x.2.1 x.2.2.1 x.2.2.2.1 x.2.2.2.2.1 x.2.2.2.2.2.1 x.2.2.2.2.2.2⟩
theorem spec_Hello.eq (k : Nat) (x : (spec_Hello.K.I).den) : func spec_Hello.x spec_Hello.h spec_Hello.ps spec_Hello.rs spec_Hello.vs spec_Hello.K.I spec_Hello.K.O spec_Hello.c k x = spec_Hello.K.run k x := by
  show _ = spec_Hello.f k x.1 x.2.1 x.2.2.1 x.2.2.2.1 x.2.2.2.2.1 x.2.2.2.2.2.1 x.2.2.2.2.2.2
  kernel_rfl
theorem spec_Hello.ok : CtrOk Tryz.prog 33 spec_Hello.K :=
  CtrOk.of (fn := Tryz.f33) (cd := spec_Hello.c) (cx := spec_Hello.x) (hs := spec_Hello.h) (by kernel_rfl) (by kernel_rfl) (by kernel_rfl) (by kernel_rfl) tt_ok (envOk_cons spec_l05Byte.ok (envOk_cons spec_PublicOf.ok (envOk_cons spec_NumberText.ok (envOk_nil)))) (by kernel_rfl) (by kernel_rfl) (by kernel_rfl) (by kernel_rfl) fun k x r h => (spec_Hello.eq k x).trans h
/-! spec.l16Other -/
noncomputable def spec_l16Other.c : Code := bodyOf Tryz.f73
def spec_l16Other.h : Nat → Hint := look ⟨[], [], []⟩ []
def spec_l16Other.ps : List PK := [.agg 7, .one]
def spec_l16Other.rs : List RK := [.one true, .one true]
def spec_l16Other.vs : List ResultVar := [.tmp 4, .tmp 5]
def spec_l16Other.x : Cx := ⟨tt, look none [(57, some spec_l05Byte.K), (69, some spec_ReadNumber.K), (53, some spec_InGroup.K)]⟩
def spec_l16Other.f (k : Nat) (a0_0 : Int) (_a0_1 : Int) (_a0_2 : Int) (_a0_3 : Int) (_a0_4 : Int) (_a0_5 : ByteArray) (_a0_6 : ByteArray) (a1 : ByteArray) : Option (Int × Bool) :=
  (bif ((a1.size : Int) != (6 : Int)) then some ((0 : Int), false) else (bif (true && (decide ((2 : Int) ≤ (a1.size : Int)))) then (spec_l05Byte.f k (IntKind.i64.wrap ((3 : Int) - a0_0))).bind fun r1 => (bif decide ((⟨#[104]⟩ : ByteArray).size + r1.size ≤ 140737488351232) then (bif (!((a1.extract 0 2).toList == ((⟨#[104]⟩ : ByteArray) ++ r1).toList)) then some ((0 : Int), false) else (bif (true && (decide ((2 : Int) ≤ (a1.size : Int)))) then (spec_ReadNumber.f k (a1.extract 2 a1.size)).bind fun r2 => (bif r2.2 then (spec_InGroup.f k r2.1).bind fun r3 => some (r2.1, r3) else some (r2.1, false)) else none)) else none) else none))
def spec_l16Other.K : Ctr := ⟨spec_l16Other.ps, spec_l16Other.rs, false, (.two (.int .i64) (.two (.int .i64) (.two (.int .i64) (.two (.int .i64) (.two (.int .i64) (.two .str (.two .str .str))))))), (.two (.int .i64) .bool), fun k x => spec_l16Other.f k x.1 x.2.1 x.2.2.1 x.2.2.2.1 x.2.2.2.2.1 x.2.2.2.2.2.1 x.2.2.2.2.2.2.1 x.2.2.2.2.2.2.2⟩
theorem spec_l16Other.eq (k : Nat) (x : (spec_l16Other.K.I).den) : func spec_l16Other.x spec_l16Other.h spec_l16Other.ps spec_l16Other.rs spec_l16Other.vs spec_l16Other.K.I spec_l16Other.K.O spec_l16Other.c k x = spec_l16Other.K.run k x := by
  show _ = spec_l16Other.f k x.1 x.2.1 x.2.2.1 x.2.2.2.1 x.2.2.2.2.1 x.2.2.2.2.2.1 x.2.2.2.2.2.2.1 x.2.2.2.2.2.2.2
  kernel_rfl
theorem spec_l16Other.ok : CtrOk Tryz.prog 73 spec_l16Other.K :=
  CtrOk.of (fn := Tryz.f73) (cd := spec_l16Other.c) (cx := spec_l16Other.x) (hs := spec_l16Other.h) (by kernel_rfl) (by kernel_rfl) (by kernel_rfl) (by kernel_rfl) tt_ok (envOk_cons spec_l05Byte.ok (envOk_cons spec_ReadNumber.ok (envOk_cons spec_InGroup.ok (envOk_nil)))) (by kernel_rfl) (by kernel_rfl) (by kernel_rfl) (by kernel_rfl) fun k x r h => (spec_l16Other.eq k x).trans h
/-! spec.Transcript -/
noncomputable def spec_Transcript.c : Code := bodyOf Tryz.f77
def spec_Transcript.h : Nat → Hint := look ⟨[], [], []⟩ []
def spec_Transcript.ps : List PK := [.agg 7]
def spec_Transcript.rs : List RK := [.one true]
def spec_Transcript.vs : List ResultVar := [.tmp 2]
def spec_Transcript.x : Cx := ⟨tt, look none []⟩
def spec_Transcript.f (_k : Nat) (a0_0 : Int) (_a0_1 : Int) (_a0_2 : Int) (_a0_3 : Int) (_a0_4 : Int) (a0_5 : ByteArray) (a0_6 : ByteArray) : Option (ByteArray) :=
  (bif (a0_0 == (1 : Int)) then (bif decide (a0_5.size + a0_6.size ≤ 140737488351232) then some (a0_5 ++ a0_6) else none) else (bif decide (a0_6.size + a0_5.size ≤ 140737488351232) then some (a0_6 ++ a0_5) else none))
def spec_Transcript.K : Ctr := ⟨spec_Transcript.ps, spec_Transcript.rs, false, (.two (.int .i64) (.two (.int .i64) (.two (.int .i64) (.two (.int .i64) (.two (.int .i64) (.two .str .str)))))), .str, fun k x => spec_Transcript.f k x.1 x.2.1 x.2.2.1 x.2.2.2.1 x.2.2.2.2.1 x.2.2.2.2.2.1 x.2.2.2.2.2.2⟩
theorem spec_Transcript.eq (k : Nat) (x : (spec_Transcript.K.I).den) : func spec_Transcript.x spec_Transcript.h spec_Transcript.ps spec_Transcript.rs spec_Transcript.vs spec_Transcript.K.I spec_Transcript.K.O spec_Transcript.c k x = spec_Transcript.K.run k x := by
  show _ = spec_Transcript.f k x.1 x.2.1 x.2.2.1 x.2.2.2.1 x.2.2.2.2.1 x.2.2.2.2.2.1 x.2.2.2.2.2.2
  kernel_rfl
theorem spec_Transcript.ok : CtrOk Tryz.prog 77 spec_Transcript.K :=
  CtrOk.of (fn := Tryz.f77) (cd := spec_Transcript.c) (cx := spec_Transcript.x) (hs := spec_Transcript.h) (by kernel_rfl) (by kernel_rfl) (by kernel_rfl) (by kernel_rfl) tt_ok (envOk_nil) (by kernel_rfl) (by kernel_rfl) (by kernel_rfl) (by kernel_rfl) fun k x r h => (spec_Transcript.eq k x).trans h
/-! spec.Challenge -/
noncomputable def spec_Challenge.c : Code := bodyOf Tryz.f95
def spec_Challenge.h : Nat → Hint := look ⟨[], [], []⟩ []
def spec_Challenge.ps : List PK := [.one, .one, .one]
def spec_Challenge.rs : List RK := [.one true]
def spec_Challenge.vs : List ResultVar := [.tmp 6]
def spec_Challenge.x : Cx := ⟨tt, look none [(52, some spec_l01In.K), (58, some spec_NumberText.K), (56, some spec_DigestOf.K), (55, some spec_l07First.K)]⟩
def spec_Challenge.f (k : Nat) (a0 : Int) (a1 : Int) (a2 : ByteArray) : Option (Int) :=
  (spec_l01In.f k a0 (0 : Int) (4294967295 : Int)).bind fun r1 => (bif (!r1) then some (0 : Int) else (spec_l01In.f k a1 (0 : Int) (4294967295 : Int)).bind fun r2 => (bif (!r2) then some (0 : Int) else (spec_NumberText.f k a0).bind fun r3 => (spec_NumberText.f k a1).bind fun r4 => (bif decide (r3.size + r4.size ≤ 140737488351232) then (bif decide ((r3 ++ r4).size + a2.size ≤ 140737488351232) then (spec_DigestOf.f k ((r3 ++ r4) ++ a2)).bind fun r5 => (spec_l07First.f k r5).bind fun r6 => some (r6.tmod (1073741789 : Int)) else none) else none)))
def spec_Challenge.K : Ctr := ⟨spec_Challenge.ps, spec_Challenge.rs, false, (.two (.int .i64) (.two (.int .i64) .str)), (.int .i64), fun k x => spec_Challenge.f k x.1 x.2.1 x.2.2⟩
theorem spec_Challenge.eq (k : Nat) (x : (spec_Challenge.K.I).den) : func spec_Challenge.x spec_Challenge.h spec_Challenge.ps spec_Challenge.rs spec_Challenge.vs spec_Challenge.K.I spec_Challenge.K.O spec_Challenge.c k x = spec_Challenge.K.run k x := by
  show _ = spec_Challenge.f k x.1 x.2.1 x.2.2
  kernel_rfl
theorem spec_Challenge.ok : CtrOk Tryz.prog 95 spec_Challenge.K :=
  CtrOk.of (fn := Tryz.f95) (cd := spec_Challenge.c) (cx := spec_Challenge.x) (hs := spec_Challenge.h) (by kernel_rfl) (by kernel_rfl) (by kernel_rfl) (by kernel_rfl) tt_ok (envOk_cons spec_l01In.ok (envOk_cons spec_NumberText.ok (envOk_cons spec_DigestOf.ok (envOk_cons spec_l07First.ok (envOk_nil))))) (by kernel_rfl) (by kernel_rfl) (by kernel_rfl) (by kernel_rfl) fun k x r h => (spec_Challenge.eq k x).trans h
/-! spec.SignText -/
noncomputable def spec_SignText.c : Code := bodyOf Tryz.f92
def spec_SignText.h : Nat → Hint := look ⟨[], [], []⟩ []
def spec_SignText.ps : List PK := [.one, .one]
def spec_SignText.rs : List RK := [.agg 2 true, .one true]
def spec_SignText.vs : List ResultVar := [.cell 4 83, .tmp 5]
def spec_SignText.x : Cx := ⟨tt, look none [(52, some spec_l01In.K), (58, some spec_NumberText.K), (32, some spec_SecretOf.K), (54, some spec_PowP.K), (31, some spec_PublicOf.K), (95, some spec_Challenge.K)]⟩
def spec_SignText.f (k : Nat) (a0 : Int) (a1 : ByteArray) : Option (Int × Int × Bool) :=
  (spec_l01In.f k a0 (1 : Int) (1073741788 : Int)).bind fun r1 => (bif (!r1) then some ((0 : Int), (0 : Int), false) else (spec_NumberText.f k a0).bind fun r2 => (bif decide (r2.size + a1.size ≤ 140737488351232) then (spec_SecretOf.f k (r2 ++ a1)).bind fun r3 => (spec_PowP.f k (4 : Int) r3).bind fun r4 => (spec_PublicOf.f k a0).bind fun r5 => (spec_Challenge.f k r4 r5 a1).bind fun r6 => some (r6, ((IntKind.i64.wrap (r3 + ((IntKind.i64.wrap (r6 * a0)).tmod (1073741789 : Int)))).tmod (1073741789 : Int)), true) else none))
def spec_SignText.K : Ctr := ⟨spec_SignText.ps, spec_SignText.rs, false, (.two (.int .i64) .str), (.two (.int .i64) (.two (.int .i64) .bool)), fun k x => spec_SignText.f k x.1 x.2⟩
theorem spec_SignText.eq (k : Nat) (x : (spec_SignText.K.I).den) : func spec_SignText.x spec_SignText.h spec_SignText.ps spec_SignText.rs spec_SignText.vs spec_SignText.K.I spec_SignText.K.O spec_SignText.c k x = spec_SignText.K.run k x := by
  show _ = spec_SignText.f k x.1 x.2
  kernel_rfl
theorem spec_SignText.ok : CtrOk Tryz.prog 92 spec_SignText.K :=
  CtrOk.of (fn := Tryz.f92) (cd := spec_SignText.c) (cx := spec_SignText.x) (hs := spec_SignText.h) (by kernel_rfl) (by kernel_rfl) (by kernel_rfl) (by kernel_rfl) tt_ok (envOk_cons spec_l01In.ok (envOk_cons spec_NumberText.ok (envOk_cons spec_SecretOf.ok (envOk_cons spec_PowP.ok (envOk_cons spec_PublicOf.ok (envOk_cons spec_Challenge.ok (envOk_nil))))))) (by kernel_rfl) (by kernel_rfl) (by kernel_rfl) (by kernel_rfl) fun k x r h => (spec_SignText.eq k x).trans h
/-! spec.SigText -/
noncomputable def spec_SigText.c : Code := bodyOf Tryz.f93
def spec_SigText.h : Nat → Hint := look ⟨[], [], []⟩ []
def spec_SigText.ps : List PK := [.agg 2]
def spec_SigText.rs : List RK := [.one true, .one true]
def spec_SigText.vs : List ResultVar := [.tmp 2, .tmp 3]
def spec_SigText.x : Cx := ⟨tt, look none [(52, some spec_l01In.K), (58, some spec_NumberText.K)]⟩
def spec_SigText.f (k : Nat) (a0_0 : Int) (a0_1 : Int) : Option (ByteArray × Bool) :=
  (spec_l01In.f k a0_0 (0 : Int) (1073741788 : Int)).bind fun r1 => (bif (!r1) then some (ByteArray.empty, false) else (spec_l01In.f k a0_1 (0 : Int) (1073741788 : Int)).bind fun r2 => (bif (!r2) then some (ByteArray.empty, false) else (spec_NumberText.f k a0_0).bind fun r3 => (spec_NumberText.f k a0_1).bind fun r4 => (bif decide (r3.size + r4.size ≤ 140737488351232) then some ((r3 ++ r4), true) else none)))
def spec_SigText.K : Ctr := ⟨spec_SigText.ps, spec_SigText.rs, false, (.two (.int .i64) (.int .i64)), (.two .str .bool), fun k x => spec_SigText.f k x.1 x.2⟩
theorem spec_SigText.eq (k : Nat) (x : (spec_SigText.K.I).den) : func spec_SigText.x spec_SigText.h spec_SigText.ps spec_SigText.rs spec_SigText.vs spec_SigText.K.I spec_SigText.K.O spec_SigText.c k x = spec_SigText.K.run k x := by
  show _ = spec_SigText.f k x.1 x.2
  kernel_rfl
theorem spec_SigText.ok : CtrOk Tryz.prog 93 spec_SigText.K :=
  CtrOk.of (fn := Tryz.f93) (cd := spec_SigText.c) (cx := spec_SigText.x) (hs := spec_SigText.h) (by kernel_rfl) (by kernel_rfl) (by kernel_rfl) (by kernel_rfl) tt_ok (envOk_cons spec_l01In.ok (envOk_cons spec_NumberText.ok (envOk_nil))) (by kernel_rfl) (by kernel_rfl) (by kernel_rfl) (by kernel_rfl) fun k x r h => (spec_SigText.eq k x).trans h
/-! spec.Proof -/
noncomputable def spec_Proof.c : Code := bodyOf Tryz.f74
def spec_Proof.h : Nat → Hint := look ⟨[], [], []⟩ []
def spec_Proof.ps : List PK := [.agg 7]
def spec_Proof.rs : List RK := [.one true]
def spec_Proof.vs : List ResultVar := [.tmp 2]
def spec_Proof.x : Cx := ⟨tt, look none [(77, some spec_Transcript.K), (57, some spec_l05Byte.K), (92, some spec_SignText.K), (93, some spec_SigText.K)]⟩
def spec_Proof.f (k : Nat) (a0_0 : Int) (a0_1 : Int) (a0_2 : Int) (a0_3 : Int) (a0_4 : Int) (a0_5 : ByteArray) (a0_6 : ByteArray) : Option (ByteArray) :=
  (bif (a0_4 != (2 : Int)) then (bif (a0_4 != (3 : Int)) then some ByteArray.empty else (spec_Transcript.f k a0_0 a0_1 a0_2 a0_3 a0_4 a0_5 a0_6).bind fun r1 => (spec_l05Byte.f k a0_0).bind fun r2 => (bif decide (r1.size + r2.size ≤ 140737488351232) then (spec_SignText.f k a0_1 (r1 ++ r2)).bind fun r3 => (spec_SigText.f k r3.1 r3.2.1).bind fun r4 => (bif decide ((⟨#[112]⟩ : ByteArray).size + r4.1.size ≤ 140737488351232) then some ((⟨#[112]⟩ : ByteArray) ++ r4.1) else none) else none)) else (spec_Transcript.f k a0_0 a0_1 a0_2 a0_3 a0_4 a0_5 a0_6).bind fun r5 => (spec_l05Byte.f k a0_0).bind fun r6 => (bif decide (r5.size + r6.size ≤ 140737488351232) then (spec_SignText.f k a0_1 (r5 ++ r6)).bind fun r7 => (spec_SigText.f k r7.1 r7.2.1).bind fun r8 => (bif decide ((⟨#[112]⟩ : ByteArray).size + r8.1.size ≤ 140737488351232) then some ((⟨#[112]⟩ : ByteArray) ++ r8.1) else none) else none))
def spec_Proof.K : Ctr := ⟨spec_Proof.ps, spec_Proof.rs, false, (.two (.int .i64) (.two (.int .i64) (.two (.int .i64) (.two (.int .i64) (.two (.int .i64) (.two .str .str)))))), .str, fun k x => spec_Proof.f k x.1 x.2.1 x.2.2.1 x.2.2.2.1 x.2.2.2.2.1 x.2.2.2.2.2.1 x.2.2.2.2.2.2⟩
theorem spec_Proof.eq (k : Nat) (x : (spec_Proof.K.I).den) : func spec_Proof.x spec_Proof.h spec_Proof.ps spec_Proof.rs spec_Proof.vs spec_Proof.K.I spec_Proof.K.O spec_Proof.c k x = spec_Proof.K.run k x := by
  show _ = spec_Proof.f k x.1 x.2.1 x.2.2.1 x.2.2.2.1 x.2.2.2.2.1 x.2.2.2.2.2.1 x.2.2.2.2.2.2
  kernel_rfl
theorem spec_Proof.ok : CtrOk Tryz.prog 74 spec_Proof.K :=
  CtrOk.of (fn := Tryz.f74) (cd := spec_Proof.c) (cx := spec_Proof.x) (hs := spec_Proof.h) (by kernel_rfl) (by kernel_rfl) (by kernel_rfl) (by kernel_rfl) tt_ok (envOk_cons spec_Transcript.ok (envOk_cons spec_l05Byte.ok (envOk_cons spec_SignText.ok (envOk_cons spec_SigText.ok (envOk_nil))))) (by kernel_rfl) (by kernel_rfl) (by kernel_rfl) (by kernel_rfl) fun k x r h => (spec_Proof.eq k x).trans h
/-! spec.ReadSig -/
noncomputable def spec_ReadSig.c : Code := bodyOf Tryz.f75
def spec_ReadSig.h : Nat → Hint := look ⟨[], [], []⟩ []
def spec_ReadSig.ps : List PK := [.one]
def spec_ReadSig.rs : List RK := [.agg 2 true, .one true]
def spec_ReadSig.vs : List ResultVar := [.cell 2 83, .tmp 3]
def spec_ReadSig.x : Cx := ⟨tt, look none [(69, some spec_ReadNumber.K)]⟩
def spec_ReadSig.f (k : Nat) (a0 : ByteArray) : Option (Int × Int × Bool) :=
  (bif ((a0.size : Int) != (8 : Int)) then some ((0 : Int), (0 : Int), false) else (bif (true && (decide ((4 : Int) ≤ (a0.size : Int)))) then (spec_ReadNumber.f k (a0.extract 0 4)).bind fun r1 => (bif (true && (decide ((4 : Int) ≤ (a0.size : Int)))) then (spec_ReadNumber.f k (a0.extract 4 a0.size)).bind fun r2 => (bif (decide (r1.1 ≥ (1073741789 : Int))) then some ((0 : Int), (0 : Int), false) else (bif (decide (r2.1 ≥ (1073741789 : Int))) then some ((0 : Int), (0 : Int), false) else some (r1.1, r2.1, true))) else none) else none))
def spec_ReadSig.K : Ctr := ⟨spec_ReadSig.ps, spec_ReadSig.rs, false, .str, (.two (.int .i64) (.two (.int .i64) .bool)), fun k x => spec_ReadSig.f k x⟩
theorem spec_ReadSig.eq (k : Nat) (x : (spec_ReadSig.K.I).den) : func spec_ReadSig.x spec_ReadSig.h spec_ReadSig.ps spec_ReadSig.rs spec_ReadSig.vs spec_ReadSig.K.I spec_ReadSig.K.O spec_ReadSig.c k x = spec_ReadSig.K.run k x := by
  show _ = spec_ReadSig.f k x
  kernel_rfl
theorem spec_ReadSig.ok : CtrOk Tryz.prog 75 spec_ReadSig.K :=
  CtrOk.of (fn := Tryz.f75) (cd := spec_ReadSig.c) (cx := spec_ReadSig.x) (hs := spec_ReadSig.h) (by kernel_rfl) (by kernel_rfl) (by kernel_rfl) (by kernel_rfl) tt_ok (envOk_cons spec_ReadNumber.ok (envOk_nil)) (by kernel_rfl) (by kernel_rfl) (by kernel_rfl) (by kernel_rfl) fun k x r h => (spec_ReadSig.eq k x).trans h
/-! spec.MulP -/
noncomputable def spec_MulP.c : Code := bodyOf Tryz.f94
def spec_MulP.h : Nat → Hint := look ⟨[], [], []⟩ []
def spec_MulP.ps : List PK := [.one, .one]
def spec_MulP.rs : List RK := [.one true]
def spec_MulP.vs : List ResultVar := [.tmp 4]
def spec_MulP.x : Cx := ⟨tt, look none [(68, some spec_l03Mod.K)]⟩
def spec_MulP.f (k : Nat) (a0 : Int) (a1 : Int) : Option (Int) :=
  (spec_l03Mod.f k a0).bind fun r1 => (spec_l03Mod.f k a1).bind fun r2 => some ((IntKind.i64.wrap (r1 * r2)).tmod (2147483579 : Int))
def spec_MulP.K : Ctr := ⟨spec_MulP.ps, spec_MulP.rs, false, (.two (.int .i64) (.int .i64)), (.int .i64), fun k x => spec_MulP.f k x.1 x.2⟩
theorem spec_MulP.eq (k : Nat) (x : (spec_MulP.K.I).den) : func spec_MulP.x spec_MulP.h spec_MulP.ps spec_MulP.rs spec_MulP.vs spec_MulP.K.I spec_MulP.K.O spec_MulP.c k x = spec_MulP.K.run k x := by
  show _ = spec_MulP.f k x.1 x.2
  kernel_rfl
theorem spec_MulP.ok : CtrOk Tryz.prog 94 spec_MulP.K :=
  CtrOk.of (fn := Tryz.f94) (cd := spec_MulP.c) (cx := spec_MulP.x) (hs := spec_MulP.h) (by kernel_rfl) (by kernel_rfl) (by kernel_rfl) (by kernel_rfl) tt_ok (envOk_cons spec_l03Mod.ok (envOk_nil)) (by kernel_rfl) (by kernel_rfl) (by kernel_rfl) (by kernel_rfl) fun k x r h => (spec_MulP.eq k x).trans h
/-! spec.CheckText -/
noncomputable def spec_CheckText.c : Code := bodyOf Tryz.f76
def spec_CheckText.h : Nat → Hint := look ⟨[], [], []⟩ []
def spec_CheckText.ps : List PK := [.one, .one, .agg 2]
def spec_CheckText.rs : List RK := [.one true]
def spec_CheckText.vs : List ResultVar := [.tmp 6]
def spec_CheckText.x : Cx := ⟨tt, look none [(53, some spec_InGroup.K), (52, some spec_l01In.K), (54, some spec_PowP.K), (94, some spec_MulP.K), (95, some spec_Challenge.K)]⟩
def spec_CheckText.f (k : Nat) (a0 : Int) (a1 : ByteArray) (a2_0 : Int) (a2_1 : Int) : Option (Bool) :=
  (spec_InGroup.f k a0).bind fun r1 => (bif (!r1) then some false else (spec_l01In.f k a2_0 (0 : Int) (1073741788 : Int)).bind fun r2 => (bif (!r2) then some false else (spec_l01In.f k a2_1 (0 : Int) (1073741788 : Int)).bind fun r3 => (bif (!r3) then some false else (spec_PowP.f k (4 : Int) a2_1).bind fun r4 => (spec_PowP.f k a0 (IntKind.i64.wrap ((1073741789 : Int) - a2_0))).bind fun r5 => (spec_MulP.f k r4 r5).bind fun r6 => (spec_Challenge.f k r6 a0 a1).bind fun r7 => some (a2_0 == r7))))
def spec_CheckText.K : Ctr := ⟨spec_CheckText.ps, spec_CheckText.rs, false, (.two (.int .i64) (.two .str (.two (.int .i64) (.int .i64)))), .bool, fun k x => spec_CheckText.f k x.1 x.2.1 x.2.2.1 x.2.2.2⟩
theorem spec_CheckText.eq (k : Nat) (x : (spec_CheckText.K.I).den) : func spec_CheckText.x spec_CheckText.h spec_CheckText.ps spec_CheckText.rs spec_CheckText.vs spec_CheckText.K.I spec_CheckText.K.O spec_CheckText.c k x = spec_CheckText.K.run k x := by
  show _ = spec_CheckText.f k x.1 x.2.1 x.2.2.1 x.2.2.2
  kernel_rfl
theorem spec_CheckText.ok : CtrOk Tryz.prog 76 spec_CheckText.K :=
  CtrOk.of (fn := Tryz.f76) (cd := spec_CheckText.c) (cx := spec_CheckText.x) (hs := spec_CheckText.h) (by kernel_rfl) (by kernel_rfl) (by kernel_rfl) (by kernel_rfl) tt_ok (envOk_cons spec_InGroup.ok (envOk_cons spec_l01In.ok (envOk_cons spec_PowP.ok (envOk_cons spec_MulP.ok (envOk_cons spec_Challenge.ok (envOk_nil)))))) (by kernel_rfl) (by kernel_rfl) (by kernel_rfl) (by kernel_rfl) fun k x r h => (spec_CheckText.eq k x).trans h
/-! spec.HearGreet -/
noncomputable def spec_HearGreet.c : Code := bodyOf Tryz.f59
def spec_HearGreet.h : Nat → Hint := look ⟨[], [], []⟩ []
def spec_HearGreet.ps : List PK := [.agg 7, .one]
def spec_HearGreet.rs : List RK := [.agg 7 true, .one true]
def spec_HearGreet.vs : List ResultVar := [.cell 4 32, .tmp 5]
def spec_HearGreet.x : Cx := ⟨tt, look none [(73, some spec_l16Other.K), (74, some spec_Proof.K), (75, some spec_ReadSig.K), (77, some spec_Transcript.K), (57, some spec_l05Byte.K), (76, some spec_CheckText.K)]⟩
def spec_HearGreet.f (k : Nat) (a0_0 : Int) (a0_1 : Int) (a0_2 : Int) (a0_3 : Int) (a0_4 : Int) (a0_5 : ByteArray) (a0_6 : ByteArray) (a1 : ByteArray) : Option (Int × Int × Int × Int × Int × ByteArray × ByteArray × ByteArray) :=
  (bif (a0_4 == (1 : Int)) then (spec_l16Other.f k a0_0 a0_1 a0_2 a0_3 a0_4 a0_5 a0_6 a1).bind fun r1 => (bif (!r1.2) then some (a0_0, a0_1, a0_2, a0_3, (4 : Int), a0_5, a0_6, ByteArray.empty) else (spec_Proof.f k a0_0 a0_1 a0_2 a0_3 (2 : Int) a0_5 a1).bind fun r2 => some (a0_0, a0_1, a0_2, a0_3, (2 : Int), a0_5, a1, r2)) else (bif (a0_4 == (2 : Int)) then (bif ((a1.size : Int) == (9 : Int)) then (a1[0]?).bind fun c3 => (bif ((c3.toNat : Int) == (112 : Int)) then (bif (true && (decide ((1 : Int) ≤ (a1.size : Int)))) then (spec_ReadSig.f k (a1.extract 1 a1.size)).bind fun r4 => (bif r4.2.2 then (spec_Transcript.f k a0_0 a0_1 a0_2 a0_3 (4 : Int) a0_5 a0_6).bind fun r5 => (spec_l05Byte.f k (IntKind.i64.wrap ((3 : Int) - a0_0))).bind fun r6 => (bif decide (r5.size + r6.size ≤ 140737488351232) then (spec_CheckText.f k a0_2 (r5 ++ r6) r4.1 r4.2.1).bind fun r7 => (bif r7 then some (a0_0, a0_1, a0_2, a0_3, (3 : Int), a0_5, a0_6, ByteArray.empty) else some (a0_0, a0_1, a0_2, a0_3, (4 : Int), a0_5, a0_6, ByteArray.empty)) else none) else some (a0_0, a0_1, a0_2, a0_3, (4 : Int), a0_5, a0_6, ByteArray.empty)) else none) else some (a0_0, a0_1, a0_2, a0_3, (4 : Int), a0_5, a0_6, ByteArray.empty)) else some (a0_0, a0_1, a0_2, a0_3, (4 : Int), a0_5, a0_6, ByteArray.empty)) else some (a0_0, a0_1, a0_2, a0_3, a0_4, a0_5, a0_6, ByteArray.empty)))
def spec_HearGreet.K : Ctr := ⟨spec_HearGreet.ps, spec_HearGreet.rs, false, (.two (.int .i64) (.two (.int .i64) (.two (.int .i64) (.two (.int .i64) (.two (.int .i64) (.two .str (.two .str .str))))))), (.two (.int .i64) (.two (.int .i64) (.two (.int .i64) (.two (.int .i64) (.two (.int .i64) (.two .str (.two .str .str))))))), fun k x => spec_HearGreet.f k x.1 x.2.1 x.2.2.1 x.2.2.2.1 x.2.2.2.2.1 x.2.2.2.2.2.1 x.2.2.2.2.2.2.1 x.2.2.2.2.2.2.2⟩
theorem spec_HearGreet.eq (k : Nat) (x : (spec_HearGreet.K.I).den) : func spec_HearGreet.x spec_HearGreet.h spec_HearGreet.ps spec_HearGreet.rs spec_HearGreet.vs spec_HearGreet.K.I spec_HearGreet.K.O spec_HearGreet.c k x = spec_HearGreet.K.run k x := by
  show _ = spec_HearGreet.f k x.1 x.2.1 x.2.2.1 x.2.2.2.1 x.2.2.2.2.1 x.2.2.2.2.2.1 x.2.2.2.2.2.2.1 x.2.2.2.2.2.2.2
  kernel_rfl
theorem spec_HearGreet.ok : CtrOk Tryz.prog 59 spec_HearGreet.K :=
  CtrOk.of (fn := Tryz.f59) (cd := spec_HearGreet.c) (cx := spec_HearGreet.x) (hs := spec_HearGreet.h) (by kernel_rfl) (by kernel_rfl) (by kernel_rfl) (by kernel_rfl) tt_ok (envOk_cons spec_l16Other.ok (envOk_cons spec_Proof.ok (envOk_cons spec_ReadSig.ok (envOk_cons spec_Transcript.ok (envOk_cons spec_l05Byte.ok (envOk_cons spec_CheckText.ok (envOk_nil))))))) (by kernel_rfl) (by kernel_rfl) (by kernel_rfl) (by kernel_rfl) fun k x r h => (spec_HearGreet.eq k x).trans h
end Go.Proofs.YtpinehfjimphmaaGreat.DI
