/- FnExactKeysOf: functions as plain Lean, in the machine of values. -/
import Derived.Test.YtpinehfjimphmaaVFnExactKeysOf0
namespace Go.Proofs.Ytpinehfjimphmaa.DI
open Go
set_option linter.unusedVariables false
/-! laws.szGreeter -/
noncomputable def laws_szGreeter.c : Code := bodyOf Try.f9
def laws_szGreeter.h : Nat → Hint := look ⟨[], [], []⟩ []
def laws_szGreeter.ps : List PK := [.agg 7, .one]
def laws_szGreeter.rs : List RK := [.one true]
def laws_szGreeter.vs : List ResultVar := [.tmp 4]
def laws_szGreeter.x : Cx := ⟨tt, look none []⟩
def laws_szGreeter.f (_k : Nat) (_a0_0 : Int) (_a0_1 : Int) (_a0_2 : Int) (_a0_3 : Int) (_a0_4 : Int) (a0_5 : ByteArray) (a0_6 : ByteArray) (a1 : Int) : Option (Int) :=
  (bif (decide ((IntKind.i64.wrap (a1 - (a0_5.size : Int))) < (0 : Int))) then some (-1 : Int) else (bif (decide ((IntKind.i64.wrap ((IntKind.i64.wrap (a1 - (a0_5.size : Int))) - (a0_6.size : Int))) < (0 : Int))) then some (-1 : Int) else some (IntKind.i64.wrap ((IntKind.i64.wrap (a1 - (a0_5.size : Int))) - (a0_6.size : Int)))))
def laws_szGreeter.K : Ctr := ⟨laws_szGreeter.ps, laws_szGreeter.rs, false, (.two (.int .i64) (.two (.int .i64) (.two (.int .i64) (.two (.int .i64) (.two (.int .i64) (.two .str (.two .str (.int .i64)))))))), (.int .i64), fun k x => laws_szGreeter.f k x.1 x.2.1 x.2.2.1 x.2.2.2.1 x.2.2.2.2.1 x.2.2.2.2.2.1 x.2.2.2.2.2.2.1 x.2.2.2.2.2.2.2⟩
theorem laws_szGreeter.eq (k : Nat) (x : (laws_szGreeter.K.I).den) : func laws_szGreeter.x laws_szGreeter.h laws_szGreeter.ps laws_szGreeter.rs laws_szGreeter.vs laws_szGreeter.K.I laws_szGreeter.K.O laws_szGreeter.c k x = laws_szGreeter.K.run k x := by
  show _ = laws_szGreeter.f k x.1 x.2.1 x.2.2.1 x.2.2.2.1 x.2.2.2.2.1 x.2.2.2.2.2.1 x.2.2.2.2.2.2.1 x.2.2.2.2.2.2.2
  kernel_rfl
theorem laws_szGreeter.ok : CtrOk Try.prog 9 laws_szGreeter.K :=
  CtrOk.of (fn := Try.f9) (cd := laws_szGreeter.c) (cx := laws_szGreeter.x) (hs := laws_szGreeter.h) (by kernel_rfl) (by kernel_rfl) (by kernel_rfl) (by kernel_rfl) tt_ok (envOk_nil) (by kernel_rfl) (by kernel_rfl) (by kernel_rfl) (by kernel_rfl) fun k x r h => (laws_szGreeter.eq k x).trans h
/-! laws.toGreeter -/
noncomputable def laws_toGreeter.c : Code := bodyOf Try.f11
def laws_toGreeter.h : Nat → Hint := look ⟨[], [], []⟩ []
def laws_toGreeter.ps : List PK := [.agg 7]
def laws_toGreeter.rs : List RK := [.agg 7 true]
def laws_toGreeter.vs : List ResultVar := [.cell 2 25]
def laws_toGreeter.x : Cx := ⟨tt, look none []⟩
def laws_toGreeter.f (_k : Nat) (a0_0 : Int) (a0_1 : Int) (a0_2 : Int) (a0_3 : Int) (a0_4 : Int) (a0_5 : ByteArray) (a0_6 : ByteArray) : Option (Int × Int × Int × Int × Int × ByteArray × ByteArray) :=
  some (a0_0, a0_1, a0_2, a0_3, a0_4, a0_5, a0_6)
def laws_toGreeter.K : Ctr := ⟨laws_toGreeter.ps, laws_toGreeter.rs, false, (.two (.int .i64) (.two (.int .i64) (.two (.int .i64) (.two (.int .i64) (.two (.int .i64) (.two .str .str)))))), (.two (.int .i64) (.two (.int .i64) (.two (.int .i64) (.two (.int .i64) (.two (.int .i64) (.two .str .str)))))), fun k x => laws_toGreeter.f k x.1 x.2.1 x.2.2.1 x.2.2.2.1 x.2.2.2.2.1 x.2.2.2.2.2.1 x.2.2.2.2.2.2⟩
theorem laws_toGreeter.eq (k : Nat) (x : (laws_toGreeter.K.I).den) : func laws_toGreeter.x laws_toGreeter.h laws_toGreeter.ps laws_toGreeter.rs laws_toGreeter.vs laws_toGreeter.K.I laws_toGreeter.K.O laws_toGreeter.c k x = laws_toGreeter.K.run k x := by
  show _ = laws_toGreeter.f k x.1 x.2.1 x.2.2.1 x.2.2.2.1 x.2.2.2.2.1 x.2.2.2.2.2.1 x.2.2.2.2.2.2
  kernel_rfl
theorem laws_toGreeter.ok : CtrOk Try.prog 11 laws_toGreeter.K :=
  CtrOk.of (fn := Try.f11) (cd := laws_toGreeter.c) (cx := laws_toGreeter.x) (hs := laws_toGreeter.h) (by kernel_rfl) (by kernel_rfl) (by kernel_rfl) (by kernel_rfl) tt_ok (envOk_nil) (by kernel_rfl) (by kernel_rfl) (by kernel_rfl) (by kernel_rfl) fun k x r h => (laws_toGreeter.eq k x).trans h
/-! spec.l05Byte -/
noncomputable def spec_l05Byte.c : Code := bodyOf Try.f26
def spec_l05Byte.h : Nat → Hint := look ⟨[], [], []⟩ []
def spec_l05Byte.ps : List PK := [.one]
def spec_l05Byte.rs : List RK := [.one true]
def spec_l05Byte.vs : List ResultVar := [.tmp 2]
def spec_l05Byte.x : Cx := ⟨tt, look none []⟩
def spec_l05Byte.f (_k : Nat) (a0 : Int) : Option (ByteArray) :=
  (bif (decide ((a0.tmod (256 : Int)) < (0 : Int))) then some (strOfNums [(IntKind.u8.wrap (IntKind.i64.wrap ((a0.tmod (256 : Int)) + (256 : Int))))]) else some (strOfNums [(IntKind.u8.wrap (a0.tmod (256 : Int)))]))
def spec_l05Byte.K : Ctr := ⟨spec_l05Byte.ps, spec_l05Byte.rs, false, (.int .i64), .str, fun k x => spec_l05Byte.f k x⟩
theorem spec_l05Byte.eq (k : Nat) (x : (spec_l05Byte.K.I).den) : func spec_l05Byte.x spec_l05Byte.h spec_l05Byte.ps spec_l05Byte.rs spec_l05Byte.vs spec_l05Byte.K.I spec_l05Byte.K.O spec_l05Byte.c k x = spec_l05Byte.K.run k x := by
  show _ = spec_l05Byte.f k x
  kernel_rfl
theorem spec_l05Byte.ok : CtrOk Try.prog 26 spec_l05Byte.K :=
  CtrOk.of (fn := Try.f26) (cd := spec_l05Byte.c) (cx := spec_l05Byte.x) (hs := spec_l05Byte.h) (by kernel_rfl) (by kernel_rfl) (by kernel_rfl) (by kernel_rfl) tt_ok (envOk_nil) (by kernel_rfl) (by kernel_rfl) (by kernel_rfl) (by kernel_rfl) fun k x r h => (spec_l05Byte.eq k x).trans h
/-! spec.ReadNumber -/
noncomputable def spec_ReadNumber.c : Code := bodyOf Try.f66
def spec_ReadNumber.h : Nat → Hint := look ⟨[], [], []⟩ []
def spec_ReadNumber.ps : List PK := [.one]
def spec_ReadNumber.rs : List RK := [.one true, .one true]
def spec_ReadNumber.vs : List ResultVar := [.tmp 2, .tmp 3]
def spec_ReadNumber.x : Cx := ⟨tt, look none []⟩
def spec_ReadNumber.f (_k : Nat) (a0 : ByteArray) : Option (Int × Bool) :=
  (bif ((a0.size : Int) != (4 : Int)) then some ((0 : Int), false) else (a0[0]?).bind fun c1 => (a0[1]?).bind fun c2 => (a0[2]?).bind fun c3 => (a0[3]?).bind fun c4 => some ((IntKind.i64.wrap ((IntKind.i64.wrap ((IntKind.i64.wrap ((IntKind.i64.wrap ((IntKind.i64.wrap (c1.toNat : Int)) * (16777216 : Int))) + (IntKind.i64.wrap ((IntKind.i64.wrap (c2.toNat : Int)) * (65536 : Int))))) + (IntKind.i64.wrap ((IntKind.i64.wrap (c3.toNat : Int)) * (256 : Int))))) + (IntKind.i64.wrap (c4.toNat : Int)))), true))
def spec_ReadNumber.K : Ctr := ⟨spec_ReadNumber.ps, spec_ReadNumber.rs, false, .str, (.two (.int .i64) .bool), fun k x => spec_ReadNumber.f k x⟩
theorem spec_ReadNumber.eq (k : Nat) (x : (spec_ReadNumber.K.I).den) : func spec_ReadNumber.x spec_ReadNumber.h spec_ReadNumber.ps spec_ReadNumber.rs spec_ReadNumber.vs spec_ReadNumber.K.I spec_ReadNumber.K.O spec_ReadNumber.c k x = spec_ReadNumber.K.run k x := by
  show _ = spec_ReadNumber.f k x
  kernel_rfl
theorem spec_ReadNumber.ok : CtrOk Try.prog 66 spec_ReadNumber.K :=
  CtrOk.of (fn := Try.f66) (cd := spec_ReadNumber.c) (cx := spec_ReadNumber.x) (hs := spec_ReadNumber.h) (by kernel_rfl) (by kernel_rfl) (by kernel_rfl) (by kernel_rfl) tt_ok (envOk_nil) (by kernel_rfl) (by kernel_rfl) (by kernel_rfl) (by kernel_rfl) fun k x r h => (spec_ReadNumber.eq k x).trans h
/-! spec.l01In -/
noncomputable def spec_l01In.c : Code := bodyOf Try.f31
def spec_l01In.h : Nat → Hint := look ⟨[], [], []⟩ []
def spec_l01In.ps : List PK := [.one, .one, .one]
def spec_l01In.rs : List RK := [.one true]
def spec_l01In.vs : List ResultVar := [.tmp 6]
def spec_l01In.x : Cx := ⟨tt, look none []⟩
def spec_l01In.f (_k : Nat) (a0 : Int) (a1 : Int) (a2 : Int) : Option (Bool) :=
  (bif (decide (a0 ≥ a1)) then some (decide (a0 ≤ a2)) else some false)
def spec_l01In.K : Ctr := ⟨spec_l01In.ps, spec_l01In.rs, false, (.two (.int .i64) (.two (.int .i64) (.int .i64))), .bool, fun k x => spec_l01In.f k x.1 x.2.1 x.2.2⟩
theorem spec_l01In.eq (k : Nat) (x : (spec_l01In.K.I).den) : func spec_l01In.x spec_l01In.h spec_l01In.ps spec_l01In.rs spec_l01In.vs spec_l01In.K.I spec_l01In.K.O spec_l01In.c k x = spec_l01In.K.run k x := by
  show _ = spec_l01In.f k x.1 x.2.1 x.2.2
  kernel_rfl
theorem spec_l01In.ok : CtrOk Try.prog 31 spec_l01In.K :=
  CtrOk.of (fn := Try.f31) (cd := spec_l01In.c) (cx := spec_l01In.x) (hs := spec_l01In.h) (by kernel_rfl) (by kernel_rfl) (by kernel_rfl) (by kernel_rfl) tt_ok (envOk_nil) (by kernel_rfl) (by kernel_rfl) (by kernel_rfl) (by kernel_rfl) fun k x r h => (spec_l01In.eq k x).trans h
/-! spec.l03Mod -/
noncomputable def spec_l03Mod.c : Code := bodyOf Try.f75
def spec_l03Mod.h : Nat → Hint := look ⟨[], [], []⟩ []
def spec_l03Mod.ps : List PK := [.one]
def spec_l03Mod.rs : List RK := [.one true]
def spec_l03Mod.vs : List ResultVar := [.tmp 2]
def spec_l03Mod.x : Cx := ⟨tt, look none []⟩
def spec_l03Mod.f (_k : Nat) (a0 : Int) : Option (Int) :=
  (bif (decide ((a0.tmod (2147483579 : Int)) < (0 : Int))) then some (IntKind.i64.wrap ((a0.tmod (2147483579 : Int)) + (2147483579 : Int))) else some (a0.tmod (2147483579 : Int)))
def spec_l03Mod.K : Ctr := ⟨spec_l03Mod.ps, spec_l03Mod.rs, false, (.int .i64), (.int .i64), fun k x => spec_l03Mod.f k x⟩
theorem spec_l03Mod.eq (k : Nat) (x : (spec_l03Mod.K.I).den) : func spec_l03Mod.x spec_l03Mod.h spec_l03Mod.ps spec_l03Mod.rs spec_l03Mod.vs spec_l03Mod.K.I spec_l03Mod.K.O spec_l03Mod.c k x = spec_l03Mod.K.run k x := by
  show _ = spec_l03Mod.f k x
  kernel_rfl
theorem spec_l03Mod.ok : CtrOk Try.prog 75 spec_l03Mod.K :=
  CtrOk.of (fn := Try.f75) (cd := spec_l03Mod.c) (cx := spec_l03Mod.x) (hs := spec_l03Mod.h) (by kernel_rfl) (by kernel_rfl) (by kernel_rfl) (by kernel_rfl) tt_ok (envOk_nil) (by kernel_rfl) (by kernel_rfl) (by kernel_rfl) (by kernel_rfl) fun k x r h => (spec_l03Mod.eq k x).trans h
/-! spec.PowP -/
noncomputable def spec_PowP.c : Code := bodyOf Try.f57
def spec_PowP.h : Nat → Hint := look ⟨[], [], []⟩ [(0, ⟨[0, 1, 5], [], []⟩)]
def spec_PowP.ps : List PK := [.one, .one]
def spec_PowP.rs : List RK := [.one true]
def spec_PowP.vs : List ResultVar := [.tmp 4]
def spec_PowP.x : Cx := ⟨tt, look none [(31, some spec_l01In.K), (75, some spec_l03Mod.K)]⟩
def spec_PowP.s0 (_k : Nat) (rec0 : (Int × Int × Int) → Option (Int)) (p : (Int × Int × Int)) : Option (Int) :=
  (bif (decide (p.2.1 > (0 : Int))) then (bif ((p.2.1.tmod (2 : Int)) == (1 : Int)) then rec0 (((IntKind.i64.wrap (p.1 * p.1)).tmod (2147483579 : Int)), (IntKind.i64.wrap (p.2.1.tdiv (2 : Int))), ((IntKind.i64.wrap (p.2.2 * p.1)).tmod (2147483579 : Int))) else rec0 (((IntKind.i64.wrap (p.1 * p.1)).tmod (2147483579 : Int)), (IntKind.i64.wrap (p.2.1.tdiv (2 : Int))), p.2.2)) else some p.2.2)
def spec_PowP.l0 (k : Nat) : Nat → (Int × Int × Int) → Option (Int)
  | 0 => fun _ => none
  | j + 1 => spec_PowP.s0 k (spec_PowP.l0 k j)
def spec_PowP.S0 (p : (Int × Int × Int)) : DS := ⟨tl [(0, .at (.int .i64 p.1)), (1, .at (.int .i64 p.2.1)), (5, .at (.int .i64 p.2.2))], lookO []⟩
noncomputable def spec_PowP.D0 (k : Nat) (j : Nat) (p : (Int × Int × Int)) : Option (Int) := loopK (norm [] (spec_PowP.h 0)) (runK spec_PowP.x k 0 [] spec_PowP.h 0 (sub spec_PowP.c [1, 1, 1, 1, 0, 0, 0])) j (spec_PowP.S0 p) (kBlk 0 (kSeq (runK spec_PowP.x k 0 [] spec_PowP.h 0 (sub spec_PowP.c [1, 1, 1, 1, 1])) (fin tt spec_PowP.ps spec_PowP.rs spec_PowP.vs (.int .i64))))
theorem spec_PowP.D0_eq (k : Nat) : ∀ j, spec_PowP.D0 k j = spec_PowP.l0 k j := by
  intro j
  induction j with
  | zero => rfl
  | succ j ih =>
    show _ = spec_PowP.s0 k (spec_PowP.l0 k j)
    rw [← ih]
    funext p
    kernel_rfl
def spec_PowP.f (k : Nat) (a0 : Int) (a1 : Int) : Option (Int) :=
  (spec_l01In.f k a1 (0 : Int) (2147483579 : Int)).bind fun r1 => (bif (!r1) then some (0 : Int) else (spec_l03Mod.f k a0).bind fun r2 => spec_PowP.l0 k k (r2, a1, (1 : Int)))
def spec_PowP.K : Ctr := ⟨spec_PowP.ps, spec_PowP.rs, false, (.two (.int .i64) (.int .i64)), (.int .i64), fun k x => spec_PowP.f k x.1 x.2⟩
theorem spec_PowP.eq (k : Nat) (x : (spec_PowP.K.I).den) : func spec_PowP.x spec_PowP.h spec_PowP.ps spec_PowP.rs spec_PowP.vs spec_PowP.K.I spec_PowP.K.O spec_PowP.c k x = spec_PowP.K.run k x := by
  show _ = spec_PowP.f k x.1 x.2
  unfold spec_PowP.f
  rw [← spec_PowP.D0_eq k k]
  kernel_rfl
theorem spec_PowP.ok : CtrOk Try.prog 57 spec_PowP.K :=
  CtrOk.of (fn := Try.f57) (cd := spec_PowP.c) (cx := spec_PowP.x) (hs := spec_PowP.h) (by kernel_rfl) (by kernel_rfl) (by kernel_rfl) (by kernel_rfl) tt_ok (envOk_cons spec_l01In.ok (envOk_cons spec_l03Mod.ok (envOk_nil))) (by kernel_rfl) (by kernel_rfl) (by kernel_rfl) (by kernel_rfl) fun k x r h => (spec_PowP.eq k x).trans h
/-! spec.InGroup -/
noncomputable def spec_InGroup.c : Code := bodyOf Try.f32
def spec_InGroup.h : Nat → Hint := look ⟨[], [], []⟩ []
def spec_InGroup.ps : List PK := [.one]
def spec_InGroup.rs : List RK := [.one true]
def spec_InGroup.vs : List ResultVar := [.tmp 2]
def spec_InGroup.x : Cx := ⟨tt, look none [(31, some spec_l01In.K), (57, some spec_PowP.K)]⟩
def spec_InGroup.f (k : Nat) (a0 : Int) : Option (Bool) :=
  (spec_l01In.f k a0 (2 : Int) (2147483578 : Int)).bind fun r1 => (bif r1 then (spec_PowP.f k a0 (1073741789 : Int)).bind fun r2 => some (r2 == (1 : Int)) else some false)
def spec_InGroup.K : Ctr := ⟨spec_InGroup.ps, spec_InGroup.rs, false, (.int .i64), .bool, fun k x => spec_InGroup.f k x⟩
theorem spec_InGroup.eq (k : Nat) (x : (spec_InGroup.K.I).den) : func spec_InGroup.x spec_InGroup.h spec_InGroup.ps spec_InGroup.rs spec_InGroup.vs spec_InGroup.K.I spec_InGroup.K.O spec_InGroup.c k x = spec_InGroup.K.run k x := by
  show _ = spec_InGroup.f k x
  kernel_rfl
theorem spec_InGroup.ok : CtrOk Try.prog 32 spec_InGroup.K :=
  CtrOk.of (fn := Try.f32) (cd := spec_InGroup.c) (cx := spec_InGroup.x) (hs := spec_InGroup.h) (by kernel_rfl) (by kernel_rfl) (by kernel_rfl) (by kernel_rfl) tt_ok (envOk_cons spec_l01In.ok (envOk_cons spec_PowP.ok (envOk_nil))) (by kernel_rfl) (by kernel_rfl) (by kernel_rfl) (by kernel_rfl) fun k x r h => (spec_InGroup.eq k x).trans h
/-! spec.l16Other -/
noncomputable def spec_l16Other.c : Code := bodyOf Try.f43
def spec_l16Other.h : Nat → Hint := look ⟨[], [], []⟩ []
def spec_l16Other.ps : List PK := [.agg 7, .one]
def spec_l16Other.rs : List RK := [.one true, .one true]
def spec_l16Other.vs : List ResultVar := [.tmp 4, .tmp 5]
def spec_l16Other.x : Cx := ⟨tt, look none [(26, some spec_l05Byte.K), (66, some spec_ReadNumber.K), (32, some spec_InGroup.K)]⟩
def spec_l16Other.f (k : Nat) (a0_0 : Int) (_a0_1 : Int) (_a0_2 : Int) (_a0_3 : Int) (_a0_4 : Int) (_a0_5 : ByteArray) (_a0_6 : ByteArray) (a1 : ByteArray) : Option (Int × Bool) :=
  (bif ((a1.size : Int) != (6 : Int)) then some ((0 : Int), false) else (bif (true && (decide ((2 : Int) ≤ (a1.size : Int)))) then (spec_l05Byte.f k (IntKind.i64.wrap ((3 : Int) - a0_0))).bind fun r1 => (bif decide ((⟨#[104]⟩ : ByteArray).size + r1.size ≤ 140737488351232) then (bif (!((a1.extract 0 2).toList == ((⟨#[104]⟩ : ByteArray) ++ r1).toList)) then some ((0 : Int), false) else (bif (true && (decide ((2 : Int) ≤ (a1.size : Int)))) then (spec_ReadNumber.f k (a1.extract 2 a1.size)).bind fun r2 => (bif r2.2 then (spec_InGroup.f k r2.1).bind fun r3 => some (r2.1, r3) else some (r2.1, false)) else none)) else none) else none))
def spec_l16Other.K : Ctr := ⟨spec_l16Other.ps, spec_l16Other.rs, false, (.two (.int .i64) (.two (.int .i64) (.two (.int .i64) (.two (.int .i64) (.two (.int .i64) (.two .str (.two .str .str))))))), (.two (.int .i64) .bool), fun k x => spec_l16Other.f k x.1 x.2.1 x.2.2.1 x.2.2.2.1 x.2.2.2.2.1 x.2.2.2.2.2.1 x.2.2.2.2.2.2.1 x.2.2.2.2.2.2.2⟩
theorem spec_l16Other.eq (k : Nat) (x : (spec_l16Other.K.I).den) : func spec_l16Other.x spec_l16Other.h spec_l16Other.ps spec_l16Other.rs spec_l16Other.vs spec_l16Other.K.I spec_l16Other.K.O spec_l16Other.c k x = spec_l16Other.K.run k x := by
  show _ = spec_l16Other.f k x.1 x.2.1 x.2.2.1 x.2.2.2.1 x.2.2.2.2.1 x.2.2.2.2.2.1 x.2.2.2.2.2.2.1 x.2.2.2.2.2.2.2
  kernel_rfl
theorem spec_l16Other.ok : CtrOk Try.prog 43 spec_l16Other.K :=
  CtrOk.of (fn := Try.f43) (cd := spec_l16Other.c) (cx := spec_l16Other.x) (hs := spec_l16Other.h) (by kernel_rfl) (by kernel_rfl) (by kernel_rfl) (by kernel_rfl) tt_ok (envOk_cons spec_l05Byte.ok (envOk_cons spec_ReadNumber.ok (envOk_cons spec_InGroup.ok (envOk_nil)))) (by kernel_rfl) (by kernel_rfl) (by kernel_rfl) (by kernel_rfl) fun k x r h => (spec_l16Other.eq k x).trans h
/-! spec.SharedOf -/
noncomputable def spec_SharedOf.c : Code := bodyOf Try.f44
def spec_SharedOf.h : Nat → Hint := look ⟨[], [], []⟩ []
def spec_SharedOf.ps : List PK := [.one, .one]
def spec_SharedOf.rs : List RK := [.one true, .one true]
def spec_SharedOf.vs : List ResultVar := [.tmp 4, .tmp 5]
def spec_SharedOf.x : Cx := ⟨tt, look none [(32, some spec_InGroup.K), (31, some spec_l01In.K), (57, some spec_PowP.K)]⟩
def spec_SharedOf.f (k : Nat) (a0 : Int) (a1 : Int) : Option (Int × Bool) :=
  (spec_InGroup.f k a1).bind fun r1 => (bif (!r1) then some ((0 : Int), false) else (spec_l01In.f k a0 (1 : Int) (1073741788 : Int)).bind fun r2 => (bif (!r2) then some ((0 : Int), false) else (spec_PowP.f k a1 a0).bind fun r3 => some (r3, true)))
def spec_SharedOf.K : Ctr := ⟨spec_SharedOf.ps, spec_SharedOf.rs, false, (.two (.int .i64) (.int .i64)), (.two (.int .i64) .bool), fun k x => spec_SharedOf.f k x.1 x.2⟩
theorem spec_SharedOf.eq (k : Nat) (x : (spec_SharedOf.K.I).den) : func spec_SharedOf.x spec_SharedOf.h spec_SharedOf.ps spec_SharedOf.rs spec_SharedOf.vs spec_SharedOf.K.I spec_SharedOf.K.O spec_SharedOf.c k x = spec_SharedOf.K.run k x := by
  show _ = spec_SharedOf.f k x.1 x.2
  kernel_rfl
theorem spec_SharedOf.ok : CtrOk Try.prog 44 spec_SharedOf.K :=
  CtrOk.of (fn := Try.f44) (cd := spec_SharedOf.c) (cx := spec_SharedOf.x) (hs := spec_SharedOf.h) (by kernel_rfl) (by kernel_rfl) (by kernel_rfl) (by kernel_rfl) tt_ok (envOk_cons spec_InGroup.ok (envOk_cons spec_l01In.ok (envOk_cons spec_PowP.ok (envOk_nil)))) (by kernel_rfl) (by kernel_rfl) (by kernel_rfl) (by kernel_rfl) fun k x r h => (spec_SharedOf.eq k x).trans h
/-! spec.NumberText -/
noncomputable def spec_NumberText.c : Code := bodyOf Try.f27
def spec_NumberText.h : Nat → Hint := look ⟨[], [], []⟩ []
def spec_NumberText.ps : List PK := [.one]
def spec_NumberText.rs : List RK := [.one true]
def spec_NumberText.vs : List ResultVar := [.tmp 2]
def spec_NumberText.x : Cx := ⟨tt, look none [(31, some spec_l01In.K)]⟩
def spec_NumberText.f (k : Nat) (a0 : Int) : Option (ByteArray) :=
  (spec_l01In.f k a0 (0 : Int) (4294967295 : Int)).bind fun r1 => (bif (!r1) then some ByteArray.empty else some (strOfNums [(IntKind.u8.wrap (IntKind.i64.wrap (a0.tdiv (16777216 : Int)))), (IntKind.u8.wrap ((IntKind.i64.wrap (a0.tdiv (65536 : Int))).tmod (256 : Int))), (IntKind.u8.wrap ((IntKind.i64.wrap (a0.tdiv (256 : Int))).tmod (256 : Int))), (IntKind.u8.wrap (a0.tmod (256 : Int)))]))
def spec_NumberText.K : Ctr := ⟨spec_NumberText.ps, spec_NumberText.rs, false, (.int .i64), .str, fun k x => spec_NumberText.f k x⟩
theorem spec_NumberText.eq (k : Nat) (x : (spec_NumberText.K.I).den) : func spec_NumberText.x spec_NumberText.h spec_NumberText.ps spec_NumberText.rs spec_NumberText.vs spec_NumberText.K.I spec_NumberText.K.O spec_NumberText.c k x = spec_NumberText.K.run k x := by
  show _ = spec_NumberText.f k x
  kernel_rfl
theorem spec_NumberText.ok : CtrOk Try.prog 27 spec_NumberText.K :=
  CtrOk.of (fn := Try.f27) (cd := spec_NumberText.c) (cx := spec_NumberText.x) (hs := spec_NumberText.h) (by kernel_rfl) (by kernel_rfl) (by kernel_rfl) (by kernel_rfl) tt_ok (envOk_cons spec_l01In.ok (envOk_nil)) (by kernel_rfl) (by kernel_rfl) (by kernel_rfl) (by kernel_rfl) fun k x r h => (spec_NumberText.eq k x).trans h
/-! spec.Transcript -/
noncomputable def spec_Transcript.c : Code := bodyOf Try.f38
def spec_Transcript.h : Nat → Hint := look ⟨[], [], []⟩ []
def spec_Transcript.ps : List PK := [.agg 7]
def spec_Transcript.rs : List RK := [.one true]
def spec_Transcript.vs : List ResultVar := [.tmp 2]
def spec_Transcript.x : Cx := ⟨tt, look none []⟩
def spec_Transcript.f (_k : Nat) (a0_0 : Int) (_a0_1 : Int) (_a0_2 : Int) (_a0_3 : Int) (_a0_4 : Int) (a0_5 : ByteArray) (a0_6 : ByteArray) : Option (ByteArray) :=
  (bif (a0_0 == (1 : Int)) then (bif decide (a0_5.size + a0_6.size ≤ 140737488351232) then some (a0_5 ++ a0_6) else none) else (bif decide (a0_6.size + a0_5.size ≤ 140737488351232) then some (a0_6 ++ a0_5) else none))
def spec_Transcript.K : Ctr := ⟨spec_Transcript.ps, spec_Transcript.rs, false, (.two (.int .i64) (.two (.int .i64) (.two (.int .i64) (.two (.int .i64) (.two (.int .i64) (.two .str .str)))))), .str, fun k x => spec_Transcript.f k x.1 x.2.1 x.2.2.1 x.2.2.2.1 x.2.2.2.2.1 x.2.2.2.2.2.1 x.2.2.2.2.2.2⟩
theorem spec_Transcript.eq (k : Nat) (x : (spec_Transcript.K.I).den) : func spec_Transcript.x spec_Transcript.h spec_Transcript.ps spec_Transcript.rs spec_Transcript.vs spec_Transcript.K.I spec_Transcript.K.O spec_Transcript.c k x = spec_Transcript.K.run k x := by
  show _ = spec_Transcript.f k x.1 x.2.1 x.2.2.1 x.2.2.2.1 x.2.2.2.2.1 x.2.2.2.2.2.1 x.2.2.2.2.2.2
  kernel_rfl
theorem spec_Transcript.ok : CtrOk Try.prog 38 spec_Transcript.K :=
  CtrOk.of (fn := Try.f38) (cd := spec_Transcript.c) (cx := spec_Transcript.x) (hs := spec_Transcript.h) (by kernel_rfl) (by kernel_rfl) (by kernel_rfl) (by kernel_rfl) tt_ok (envOk_nil) (by kernel_rfl) (by kernel_rfl) (by kernel_rfl) (by kernel_rfl) fun k x r h => (spec_Transcript.eq k x).trans h
/-! spec.l04First -/
noncomputable def spec_l04First.c : Code := bodyOf Try.f90
def spec_l04First.h : Nat → Hint := look ⟨[], [], []⟩ []
def spec_l04First.ps : List PK := []
def spec_l04First.rs : List RK := [.one true]
def spec_l04First.vs : List ResultVar := [.tmp 0]
def spec_l04First.x : Cx := ⟨tt, look none []⟩
def spec_l04First.f (_k : Nat) : Option ((List (Int))) :=
  some [(1779033703 : Int), (3144134277 : Int), (1013904242 : Int), (2773480762 : Int), (1359893119 : Int), (2600822924 : Int), (528734635 : Int), (1541459225 : Int)]
def spec_l04First.K : Ctr := ⟨spec_l04First.ps, spec_l04First.rs, false, .unit, (.sl 113 (.int .u32)), fun k _ => spec_l04First.f k⟩
theorem spec_l04First.eq (k : Nat) (x : (spec_l04First.K.I).den) : func spec_l04First.x spec_l04First.h spec_l04First.ps spec_l04First.rs spec_l04First.vs spec_l04First.K.I spec_l04First.K.O spec_l04First.c k x = spec_l04First.K.run k x := by
  show _ = spec_l04First.f k
  kernel_rfl
theorem spec_l04First.ok : CtrOk Try.prog 90 spec_l04First.K :=
  CtrOk.of (fn := Try.f90) (cd := spec_l04First.c) (cx := spec_l04First.x) (hs := spec_l04First.h) (by kernel_rfl) (by kernel_rfl) (by kernel_rfl) (by kernel_rfl) tt_ok (envOk_nil) (by kernel_rfl) (by kernel_rfl) (by kernel_rfl) (by kernel_rfl) fun k x r h => (spec_l04First.eq k x).trans h
/-! spec.l04Bytes -/
noncomputable def spec_l04Bytes.c : Code := bodyOf Try.f89
def spec_l04Bytes.h : Nat → Hint := look ⟨[], [], []⟩ [(0, ⟨[0, 3, 4], [], [(.t 3, 576, 5, (.int .u8))]⟩)]
def spec_l04Bytes.ps : List PK := [.one]
def spec_l04Bytes.rs : List RK := [.one true]
def spec_l04Bytes.vs : List ResultVar := [.tmp 2]
def spec_l04Bytes.x : Cx := ⟨tt, look none []⟩
def spec_l04Bytes.s0 (_k : Nat) (rec0 : (Int × (List (Int)) × (List (Int))) → Option (ByteArray)) (p : (Int × (List (Int)) × (List (Int)))) : Option (ByteArray) :=
  (bif (decide (p.1 < (p.2.1.length : Int))) then (bif ((decide ((0 : Int) ≤ p.1)) && (decide (p.1 < (p.2.1.length : Int)))) then (p.2.1[p.1.toNat]?).bind fun x1 => (bif decide ((p.2.2.length + [(IntKind.u8.wrap (IntKind.u32.wrap (x1.tdiv (16777216 : Int)))), (IntKind.u8.wrap ((IntKind.u32.wrap (x1.tdiv (65536 : Int))).tmod (256 : Int))), (IntKind.u8.wrap ((IntKind.u32.wrap (x1.tdiv (256 : Int))).tmod (256 : Int))), (IntKind.u8.wrap (x1.tmod (256 : Int)))].length) * 1 ≤ 140737488355328) then rec0 ((IntKind.i64.wrap (p.1 + (1 : Int))), p.2.1, (p.2.2 ++ [(IntKind.u8.wrap (IntKind.u32.wrap (x1.tdiv (16777216 : Int)))), (IntKind.u8.wrap ((IntKind.u32.wrap (x1.tdiv (65536 : Int))).tmod (256 : Int))), (IntKind.u8.wrap ((IntKind.u32.wrap (x1.tdiv (256 : Int))).tmod (256 : Int))), (IntKind.u8.wrap (x1.tmod (256 : Int)))])) else none) else none) else some (strOfNums p.2.2))
def spec_l04Bytes.l0 (k : Nat) : Nat → (Int × (List (Int)) × (List (Int))) → Option (ByteArray)
  | 0 => fun _ => none
  | j + 1 => spec_l04Bytes.s0 k (spec_l04Bytes.l0 k j)
def spec_l04Bytes.S0 (p : (Int × (List (Int)) × (List (Int)))) : DS := ⟨tl [(0, .at (.whole 0)), (3, .at (.whole 576)), (4, .at (.int .i64 p.1))], lookO [(0, .row 113 (.int .u32) false p.2.1), (576, .row 5 (.int .u8) true p.2.2)]⟩
noncomputable def spec_l04Bytes.D0 (k : Nat) (j : Nat) (p : (Int × (List (Int)) × (List (Int)))) : Option (ByteArray) := loopK (norm [0] (spec_l04Bytes.h 0)) (runK spec_l04Bytes.x k 0 [0] spec_l04Bytes.h 0 (sub spec_l04Bytes.c [1, 1, 0, 1, 0, 0])) j (spec_l04Bytes.S0 p) (kBlk 0 (kSeq (runK spec_l04Bytes.x k 0 [0] spec_l04Bytes.h 0 (sub spec_l04Bytes.c [1, 1, 1])) (fin tt spec_l04Bytes.ps spec_l04Bytes.rs spec_l04Bytes.vs .str)))
theorem spec_l04Bytes.D0_eq (k : Nat) : ∀ j, spec_l04Bytes.D0 k j = spec_l04Bytes.l0 k j := by
  intro j
  induction j with
  | zero => rfl
  | succ j ih =>
    show _ = spec_l04Bytes.s0 k (spec_l04Bytes.l0 k j)
    rw [← ih]
    funext p
    kernel_rfl
def spec_l04Bytes.f (k : Nat) (a0 : List (Int)) : Option (ByteArray) :=
  spec_l04Bytes.l0 k k ((0 : Int), a0, ([] : List (Int)))
def spec_l04Bytes.K : Ctr := ⟨spec_l04Bytes.ps, spec_l04Bytes.rs, false, (.sl 113 (.int .u32)), .str, fun k x => spec_l04Bytes.f k x⟩
theorem spec_l04Bytes.eq (k : Nat) (x : (spec_l04Bytes.K.I).den) : func spec_l04Bytes.x spec_l04Bytes.h spec_l04Bytes.ps spec_l04Bytes.rs spec_l04Bytes.vs spec_l04Bytes.K.I spec_l04Bytes.K.O spec_l04Bytes.c k x = spec_l04Bytes.K.run k x := by
  show _ = spec_l04Bytes.f k x
  unfold spec_l04Bytes.f
  rw [← spec_l04Bytes.D0_eq k k]
  kernel_rfl
theorem spec_l04Bytes.ok : CtrOk Try.prog 89 spec_l04Bytes.K :=
  CtrOk.of (fn := Try.f89) (cd := spec_l04Bytes.c) (cx := spec_l04Bytes.x) (hs := spec_l04Bytes.h) (by kernel_rfl) (by kernel_rfl) (by kernel_rfl) (by kernel_rfl) tt_ok (envOk_nil) (by kernel_rfl) (by kernel_rfl) (by kernel_rfl) (by kernel_rfl) fun k x r h => (spec_l04Bytes.eq k x).trans h
/-! spec.HasherNew -/
noncomputable def spec_HasherNew.c : Code := bodyOf Try.f79
def spec_HasherNew.h : Nat → Hint := look ⟨[], [], []⟩ []
def spec_HasherNew.ps : List PK := []
def spec_HasherNew.rs : List RK := [.agg 3 true]
def spec_HasherNew.vs : List ResultVar := [.cell 0 87]
def spec_HasherNew.x : Cx := ⟨tt, look none [(90, some spec_l04First.K), (89, some spec_l04Bytes.K)]⟩
def spec_HasherNew.f (k : Nat) : Option (ByteArray × ByteArray × Int) :=
  (spec_l04First.f k).bind fun r1 => (spec_l04Bytes.f k r1).bind fun r2 => some (r2, ByteArray.empty, (0 : Int))
def spec_HasherNew.K : Ctr := ⟨spec_HasherNew.ps, spec_HasherNew.rs, false, .unit, (.two .str (.two .str (.int .i64))), fun k _ => spec_HasherNew.f k⟩
theorem spec_HasherNew.eq (k : Nat) (x : (spec_HasherNew.K.I).den) : func spec_HasherNew.x spec_HasherNew.h spec_HasherNew.ps spec_HasherNew.rs spec_HasherNew.vs spec_HasherNew.K.I spec_HasherNew.K.O spec_HasherNew.c k x = spec_HasherNew.K.run k x := by
  show _ = spec_HasherNew.f k
  kernel_rfl
theorem spec_HasherNew.ok : CtrOk Try.prog 79 spec_HasherNew.K :=
  CtrOk.of (fn := Try.f79) (cd := spec_HasherNew.c) (cx := spec_HasherNew.x) (hs := spec_HasherNew.h) (by kernel_rfl) (by kernel_rfl) (by kernel_rfl) (by kernel_rfl) tt_ok (envOk_cons spec_l04First.ok (envOk_cons spec_l04Bytes.ok (envOk_nil))) (by kernel_rfl) (by kernel_rfl) (by kernel_rfl) (by kernel_rfl) fun k x r h => (spec_HasherNew.eq k x).trans h
/-! spec.HasherOk -/
noncomputable def spec_HasherOk.c : Code := bodyOf Try.f85
def spec_HasherOk.h : Nat → Hint := look ⟨[], [], []⟩ []
def spec_HasherOk.ps : List PK := [.agg 3]
def spec_HasherOk.rs : List RK := [.one true]
def spec_HasherOk.vs : List ResultVar := [.tmp 2]
def spec_HasherOk.x : Cx := ⟨tt, look none [(31, some spec_l01In.K)]⟩
def spec_HasherOk.f (k : Nat) (a0_0 : ByteArray) (a0_1 : ByteArray) (a0_2 : Int) : Option (Bool) :=
  (bif ((a0_0.size : Int) == (32 : Int)) then (bif (decide ((a0_1.size : Int) < (64 : Int))) then (spec_l01In.f k a0_2 (0 : Int) (1000000000 : Int)).bind fun r1 => (bif r1 then some ((a0_2.tmod (64 : Int)) == (a0_1.size : Int)) else some false) else some false) else some false)
def spec_HasherOk.K : Ctr := ⟨spec_HasherOk.ps, spec_HasherOk.rs, false, (.two .str (.two .str (.int .i64))), .bool, fun k x => spec_HasherOk.f k x.1 x.2.1 x.2.2⟩
theorem spec_HasherOk.eq (k : Nat) (x : (spec_HasherOk.K.I).den) : func spec_HasherOk.x spec_HasherOk.h spec_HasherOk.ps spec_HasherOk.rs spec_HasherOk.vs spec_HasherOk.K.I spec_HasherOk.K.O spec_HasherOk.c k x = spec_HasherOk.K.run k x := by
  show _ = spec_HasherOk.f k x.1 x.2.1 x.2.2
  kernel_rfl
theorem spec_HasherOk.ok : CtrOk Try.prog 85 spec_HasherOk.K :=
  CtrOk.of (fn := Try.f85) (cd := spec_HasherOk.c) (cx := spec_HasherOk.x) (hs := spec_HasherOk.h) (by kernel_rfl) (by kernel_rfl) (by kernel_rfl) (by kernel_rfl) tt_ok (envOk_cons spec_l01In.ok (envOk_nil)) (by kernel_rfl) (by kernel_rfl) (by kernel_rfl) (by kernel_rfl) fun k x r h => (spec_HasherOk.eq k x).trans h
/-! spec.l04Word -/
noncomputable def spec_l04Word.c : Code := bodyOf Try.f100
def spec_l04Word.h : Nat → Hint := look ⟨[], [], []⟩ []
def spec_l04Word.ps : List PK := [.one, .one]
def spec_l04Word.rs : List RK := [.one true]
def spec_l04Word.vs : List ResultVar := [.tmp 4]
def spec_l04Word.x : Cx := ⟨tt, look none []⟩
def spec_l04Word.f (_k : Nat) (a0 : ByteArray) (a1 : Int) : Option (Int) :=
  (bif (decide ((0 : Int) ≤ a1)) then (a0[a1.toNat]?).bind fun c1 => (bif (decide ((0 : Int) ≤ (IntKind.i64.wrap (a1 + (1 : Int))))) then (a0[(IntKind.i64.wrap (a1 + (1 : Int))).toNat]?).bind fun c2 => (bif (decide ((0 : Int) ≤ (IntKind.i64.wrap (a1 + (2 : Int))))) then (a0[(IntKind.i64.wrap (a1 + (2 : Int))).toNat]?).bind fun c3 => (bif (decide ((0 : Int) ≤ (IntKind.i64.wrap (a1 + (3 : Int))))) then (a0[(IntKind.i64.wrap (a1 + (3 : Int))).toNat]?).bind fun c4 => some (IntKind.u32.wrap ((IntKind.u32.wrap ((IntKind.u32.wrap ((IntKind.u32.wrap ((IntKind.u32.wrap (c1.toNat : Int)) * (16777216 : Int))) + (IntKind.u32.wrap ((IntKind.u32.wrap (c2.toNat : Int)) * (65536 : Int))))) + (IntKind.u32.wrap ((IntKind.u32.wrap (c3.toNat : Int)) * (256 : Int))))) + (IntKind.u32.wrap (c4.toNat : Int)))) else none) else none) else none) else none)
def spec_l04Word.K : Ctr := ⟨spec_l04Word.ps, spec_l04Word.rs, false, (.two .str (.int .i64)), (.int .u32), fun k x => spec_l04Word.f k x.1 x.2⟩
theorem spec_l04Word.eq (k : Nat) (x : (spec_l04Word.K.I).den) : func spec_l04Word.x spec_l04Word.h spec_l04Word.ps spec_l04Word.rs spec_l04Word.vs spec_l04Word.K.I spec_l04Word.K.O spec_l04Word.c k x = spec_l04Word.K.run k x := by
  show _ = spec_l04Word.f k x.1 x.2
  kernel_rfl
theorem spec_l04Word.ok : CtrOk Try.prog 100 spec_l04Word.K :=
  CtrOk.of (fn := Try.f100) (cd := spec_l04Word.c) (cx := spec_l04Word.x) (hs := spec_l04Word.h) (by kernel_rfl) (by kernel_rfl) (by kernel_rfl) (by kernel_rfl) tt_ok (envOk_nil) (by kernel_rfl) (by kernel_rfl) (by kernel_rfl) (by kernel_rfl) fun k x r h => (spec_l04Word.eq k x).trans h
/-! spec.l04Words -/
noncomputable def spec_l04Words.c : Code := bodyOf Try.f86
def spec_l04Words.h : Nat → Hint := look ⟨[], [], []⟩ [(0, ⟨[0, 3, 4], [], [(.t 3, 320, 113, (.int .u32))]⟩)]
def spec_l04Words.ps : List PK := [.one]
def spec_l04Words.rs : List RK := [.one true]
def spec_l04Words.vs : List ResultVar := [.tmp 2]
def spec_l04Words.x : Cx := ⟨tt, look none [(100, some spec_l04Word.K)]⟩
def spec_l04Words.s0 (k : Nat) (rec0 : (ByteArray × Int × (List (Int))) → Option ((List (Int)))) (p : (ByteArray × Int × (List (Int)))) : Option ((List (Int))) :=
  (bif (decide ((IntKind.i64.wrap (p.2.1 + (4 : Int))) ≤ (p.1.size : Int))) then (spec_l04Word.f k p.1 p.2.1).bind fun r1 => (bif decide ((p.2.2.length + [r1].length) * 4 ≤ 140737488355328) then rec0 (p.1, (IntKind.i64.wrap (p.2.1 + (4 : Int))), (p.2.2 ++ [r1])) else none) else some p.2.2)
def spec_l04Words.l0 (k : Nat) : Nat → (ByteArray × Int × (List (Int))) → Option ((List (Int)))
  | 0 => fun _ => none
  | j + 1 => spec_l04Words.s0 k (spec_l04Words.l0 k j)
def spec_l04Words.S0 (p : (ByteArray × Int × (List (Int)))) : DS := ⟨tl [(0, .at (.str p.1)), (3, .at (.whole 320)), (4, .at (.int .i64 p.2.1))], lookO [(320, .row 113 (.int .u32) true p.2.2)]⟩
noncomputable def spec_l04Words.D0 (k : Nat) (j : Nat) (p : (ByteArray × Int × (List (Int)))) : Option ((List (Int))) := loopK (norm [] (spec_l04Words.h 0)) (runK spec_l04Words.x k 0 [] spec_l04Words.h 0 (sub spec_l04Words.c [1, 1, 0, 1, 0, 0])) j (spec_l04Words.S0 p) (kBlk 0 (kSeq (runK spec_l04Words.x k 0 [] spec_l04Words.h 0 (sub spec_l04Words.c [1, 1, 1])) (fin tt spec_l04Words.ps spec_l04Words.rs spec_l04Words.vs (.sl 113 (.int .u32)))))
theorem spec_l04Words.D0_eq (k : Nat) : ∀ j, spec_l04Words.D0 k j = spec_l04Words.l0 k j := by
  intro j
  induction j with
  | zero => rfl
  | succ j ih =>
    show _ = spec_l04Words.s0 k (spec_l04Words.l0 k j)
    rw [← ih]
    funext p
    kernel_rfl
def spec_l04Words.f (k : Nat) (a0 : ByteArray) : Option ((List (Int))) :=
  spec_l04Words.l0 k k (a0, (0 : Int), ([] : List (Int)))
def spec_l04Words.K : Ctr := ⟨spec_l04Words.ps, spec_l04Words.rs, false, .str, (.sl 113 (.int .u32)), fun k x => spec_l04Words.f k x⟩
theorem spec_l04Words.eq (k : Nat) (x : (spec_l04Words.K.I).den) : func spec_l04Words.x spec_l04Words.h spec_l04Words.ps spec_l04Words.rs spec_l04Words.vs spec_l04Words.K.I spec_l04Words.K.O spec_l04Words.c k x = spec_l04Words.K.run k x := by
  show _ = spec_l04Words.f k x
  unfold spec_l04Words.f
  rw [← spec_l04Words.D0_eq k k]
  kernel_rfl
theorem spec_l04Words.ok : CtrOk Try.prog 86 spec_l04Words.K :=
  CtrOk.of (fn := Try.f86) (cd := spec_l04Words.c) (cx := spec_l04Words.x) (hs := spec_l04Words.h) (by kernel_rfl) (by kernel_rfl) (by kernel_rfl) (by kernel_rfl) tt_ok (envOk_cons spec_l04Word.ok (envOk_nil)) (by kernel_rfl) (by kernel_rfl) (by kernel_rfl) (by kernel_rfl) fun k x r h => (spec_l04Words.eq k x).trans h
/-! spec.l04K -/
noncomputable def spec_l04K.c : Code := bodyOf Try.f87
def spec_l04K.h : Nat → Hint := look ⟨[], [], []⟩ []
def spec_l04K.ps : List PK := []
def spec_l04K.rs : List RK := [.one true]
def spec_l04K.vs : List ResultVar := [.tmp 0]
def spec_l04K.x : Cx := ⟨tt, look none []⟩
def spec_l04K.f (_k : Nat) : Option ((List (Int))) :=
  some [(1116352408 : Int), (1899447441 : Int), (3049323471 : Int), (3921009573 : Int), (961987163 : Int), (1508970993 : Int), (2453635748 : Int), (2870763221 : Int), (3624381080 : Int), (310598401 : Int), (607225278 : Int), (1426881987 : Int), (1925078388 : Int), (2162078206 : Int), (2614888103 : Int), (3248222580 : Int), (3835390401 : Int), (4022224774 : Int), (264347078 : Int), (604807628 : Int), (770255983 : Int), (1249150122 : Int), (1555081692 : Int), (1996064986 : Int), (2554220882 : Int), (2821834349 : Int), (2952996808 : Int), (3210313671 : Int), (3336571891 : Int), (3584528711 : Int), (113926993 : Int), (338241895 : Int), (666307205 : Int), (773529912 : Int), (1294757372 : Int), (1396182291 : Int), (1695183700 : Int), (1986661051 : Int), (2177026350 : Int), (2456956037 : Int), (2730485921 : Int), (2820302411 : Int), (3259730800 : Int), (3345764771 : Int), (3516065817 : Int), (3600352804 : Int), (4094571909 : Int), (275423344 : Int), (430227734 : Int), (506948616 : Int), (659060556 : Int), (883997877 : Int), (958139571 : Int), (1322822218 : Int), (1537002063 : Int), (1747873779 : Int), (1955562222 : Int), (2024104815 : Int), (2227730452 : Int), (2361852424 : Int), (2428436474 : Int), (2756734187 : Int), (3204031479 : Int), (3329325298 : Int)]
def spec_l04K.K : Ctr := ⟨spec_l04K.ps, spec_l04K.rs, false, .unit, (.sl 113 (.int .u32)), fun k _ => spec_l04K.f k⟩
theorem spec_l04K.eq (k : Nat) (x : (spec_l04K.K.I).den) : func spec_l04K.x spec_l04K.h spec_l04K.ps spec_l04K.rs spec_l04K.vs spec_l04K.K.I spec_l04K.K.O spec_l04K.c k x = spec_l04K.K.run k x := by
  show _ = spec_l04K.f k
  kernel_rfl
theorem spec_l04K.ok : CtrOk Try.prog 87 spec_l04K.K :=
  CtrOk.of (fn := Try.f87) (cd := spec_l04K.c) (cx := spec_l04K.x) (hs := spec_l04K.h) (by kernel_rfl) (by kernel_rfl) (by kernel_rfl) (by kernel_rfl) tt_ok (envOk_nil) (by kernel_rfl) (by kernel_rfl) (by kernel_rfl) (by kernel_rfl) fun k x r h => (spec_l04K.eq k x).trans h
/-! spec.l04Right -/
noncomputable def spec_l04Right.c : Code := bodyOf Try.f109
def spec_l04Right.h : Nat → Hint := look ⟨[], [], []⟩ []
def spec_l04Right.ps : List PK := [.one, .one, .one]
def spec_l04Right.rs : List RK := [.one true]
def spec_l04Right.vs : List ResultVar := [.tmp 6]
def spec_l04Right.x : Cx := ⟨tt, look none []⟩
def spec_l04Right.f (_k : Nat) (a0 : Int) (a1 : Int) (a2 : Int) : Option (Int) :=
  (bif (a1 == 0) then none else (bif (a1 == 0) then none else some (IntKind.u32.wrap ((IntKind.u32.wrap (a0.tdiv a1)) + (IntKind.u32.wrap ((a0.tmod a1) * a2))))))
def spec_l04Right.K : Ctr := ⟨spec_l04Right.ps, spec_l04Right.rs, false, (.two (.int .u32) (.two (.int .u32) (.int .u32))), (.int .u32), fun k x => spec_l04Right.f k x.1 x.2.1 x.2.2⟩
theorem spec_l04Right.eq (k : Nat) (x : (spec_l04Right.K.I).den) : func spec_l04Right.x spec_l04Right.h spec_l04Right.ps spec_l04Right.rs spec_l04Right.vs spec_l04Right.K.I spec_l04Right.K.O spec_l04Right.c k x = spec_l04Right.K.run k x := by
  show _ = spec_l04Right.f k x.1 x.2.1 x.2.2
  kernel_rfl
theorem spec_l04Right.ok : CtrOk Try.prog 109 spec_l04Right.K :=
  CtrOk.of (fn := Try.f109) (cd := spec_l04Right.c) (cx := spec_l04Right.x) (hs := spec_l04Right.h) (by kernel_rfl) (by kernel_rfl) (by kernel_rfl) (by kernel_rfl) tt_ok (envOk_nil) (by kernel_rfl) (by kernel_rfl) (by kernel_rfl) (by kernel_rfl) fun k x r h => (spec_l04Right.eq k x).trans h
/-! spec.l04S -/
noncomputable def spec_l04S.c : Code := bodyOf Try.f101
def spec_l04S.h : Nat → Hint := look ⟨[], [], []⟩ []
def spec_l04S.ps : List PK := [.one, .one, .one, .one, .one]
def spec_l04S.rs : List RK := [.one true]
def spec_l04S.vs : List ResultVar := [.tmp 10]
def spec_l04S.x : Cx := ⟨tt, look none [(109, some spec_l04Right.K)]⟩
def spec_l04S.f (k : Nat) (a0 : Int) (a1 : Int) (a2 : Int) (a3 : Int) (a4 : Bool) : Option (Int) :=
  (bif (a1 == 0) then none else (spec_l04Right.f k a0 a1 (IntKind.u32.wrap ((IntKind.u32.wrap ((2147483648 : Int).tdiv a1)) * (2 : Int)))).bind fun r1 => (bif (a2 == 0) then none else (spec_l04Right.f k a0 a2 (IntKind.u32.wrap ((IntKind.u32.wrap ((2147483648 : Int).tdiv a2)) * (2 : Int)))).bind fun r2 => (bif (a3 == 0) then none else (bif (!a4) then (bif (a3 == 0) then none else (spec_l04Right.f k a0 a3 (IntKind.u32.wrap ((IntKind.u32.wrap ((2147483648 : Int).tdiv a3)) * (2 : Int)))).bind fun r3 => some (IntKind.u32.wrap (((BitVec.ofInt IntKind.u32.bits (IntKind.u32.wrap (((BitVec.ofInt IntKind.u32.bits r1) ^^^ (BitVec.ofInt IntKind.u32.bits r2)).toNat : Int))) ^^^ (BitVec.ofInt IntKind.u32.bits r3)).toNat : Int))) else some (IntKind.u32.wrap (((BitVec.ofInt IntKind.u32.bits (IntKind.u32.wrap (((BitVec.ofInt IntKind.u32.bits r1) ^^^ (BitVec.ofInt IntKind.u32.bits r2)).toNat : Int))) ^^^ (BitVec.ofInt IntKind.u32.bits (IntKind.u32.wrap (a0.tdiv a3)))).toNat : Int))))))
def spec_l04S.K : Ctr := ⟨spec_l04S.ps, spec_l04S.rs, false, (.two (.int .u32) (.two (.int .u32) (.two (.int .u32) (.two (.int .u32) .bool)))), (.int .u32), fun k x => spec_l04S.f k x.1 x.2.1 x.2.2.1 x.2.2.2.1 x.2.2.2.2⟩
theorem spec_l04S.eq (k : Nat) (x : (spec_l04S.K.I).den) : func spec_l04S.x spec_l04S.h spec_l04S.ps spec_l04S.rs spec_l04S.vs spec_l04S.K.I spec_l04S.K.O spec_l04S.c k x = spec_l04S.K.run k x := by
  show _ = spec_l04S.f k x.1 x.2.1 x.2.2.1 x.2.2.2.1 x.2.2.2.2
  kernel_rfl
theorem spec_l04S.ok : CtrOk Try.prog 101 spec_l04S.K :=
  CtrOk.of (fn := Try.f101) (cd := spec_l04S.c) (cx := spec_l04S.x) (hs := spec_l04S.h) (by kernel_rfl) (by kernel_rfl) (by kernel_rfl) (by kernel_rfl) tt_ok (envOk_cons spec_l04Right.ok (envOk_nil)) (by kernel_rfl) (by kernel_rfl) (by kernel_rfl) (by kernel_rfl) fun k x r h => (spec_l04S.eq k x).trans h
end Go.Proofs.Ytpinehfjimphmaa.DI
