/- FnGrants: functions as plain Lean, in the machine of values. -/
import Derived.Test.YtfaeklomiofpdaaVFnGrants0
namespace Go.Proofs.Ytfaeklomiofpdaa.DI
open Go
set_option linter.unusedVariables false
/-! laws.big -/
noncomputable def laws_big.c : Code := bodyOf Try.f12
def laws_big.h : Nat → Hint := look ⟨[], [], []⟩ []
def laws_big.ps : List PK := [.one]
def laws_big.rs : List RK := [.one true]
def laws_big.vs : List ResultVar := [.tmp 2]
def laws_big.x : Cx := ⟨tt, look none []⟩
def laws_big.f (_k : Nat) (a0 : List (Int)) : Option (Bool) :=
  some (decide ((a0.length : Int) > (1048576 : Int)))
def laws_big.K : Ctr := ⟨laws_big.ps, laws_big.rs, false, (.sl 5 (.int .u8)), .bool, fun k x => laws_big.f k x⟩
theorem laws_big.eq (k : Nat) (x : (laws_big.K.I).den) : func laws_big.x laws_big.h laws_big.ps laws_big.rs laws_big.vs laws_big.K.I laws_big.K.O laws_big.c k x = laws_big.K.run k x := by
  show _ = laws_big.f k x
  kernel_rfl
theorem laws_big.ok : CtrOk Try.prog 12 laws_big.K :=
  CtrOk.of (fn := Try.f12) (cd := laws_big.c) (cx := laws_big.x) (hs := laws_big.h) (by kernel_rfl) (by kernel_rfl) (by kernel_rfl) (by kernel_rfl) tt_ok (envOk_nil) (by kernel_rfl) (by kernel_rfl) (by kernel_rfl) (by kernel_rfl) fun k x r h => (laws_big.eq k x).trans h
/-! spec.l01New -/
noncomputable def spec_l01New.c : Code := bodyOf Try.f59
def spec_l01New.h : Nat → Hint := look ⟨[], [], []⟩ [(0, ⟨[0, 3, 4], [], []⟩)]
def spec_l01New.ps : List PK := [.one]
def spec_l01New.rs : List RK := [.ptr 139 3 false]
def spec_l01New.vs : List ResultVar := [.tmp 2]
def spec_l01New.x : Cx := ⟨tt, look none []⟩
def spec_l01New.s0 (_k : Nat) (rec0 : (Int × Int × (List (Int))) → Option ((List (Int)) × Int × Int)) (p : (Int × Int × (List (Int)))) : Option ((List (Int)) × Int × Int) :=
  (bif (decide (p.2.1 < (p.2.2.length : Int))) then (bif (decide (p.2.1 < (4000 : Int))) then (bif ((decide ((0 : Int) ≤ p.2.1)) && (decide (p.2.1 < (p.2.2.length : Int)))) then (p.2.2[p.2.1.toNat]?).bind fun x1 => rec0 ((IntKind.i64.wrap (((BitVec.ofInt IntKind.i64.bits (IntKind.i64.wrap ((IntKind.i64.wrap ((IntKind.i64.wrap (p.1 * (131 : Int))) + (IntKind.i64.wrap x1))) + (7 : Int)))) &&& (BitVec.ofInt IntKind.i64.bits (1073741823 : Int))).toNat : Int)), (IntKind.i64.wrap (p.2.1 + (1 : Int))), p.2.2) else none) else some (p.2.2, (0 : Int), p.1)) else some (p.2.2, (0 : Int), p.1))
def spec_l01New.l0 (k : Nat) : Nat → (Int × Int × (List (Int))) → Option ((List (Int)) × Int × Int)
  | 0 => fun _ => none
  | j + 1 => spec_l01New.s0 k (spec_l01New.l0 k j)
def spec_l01New.S0 (p : (Int × Int × (List (Int)))) : DS := ⟨tl [(0, .at (.whole 0)), (3, .at (.int .i64 p.1)), (4, .at (.int .i64 p.2.1))], lookO [(0, .row 5 (.int .u8) false p.2.2)]⟩
noncomputable def spec_l01New.D0 (k : Nat) (j : Nat) (p : (Int × Int × (List (Int)))) : Option ((List (Int)) × Int × Int) := loopK (norm [0] (spec_l01New.h 0)) (runK spec_l01New.x k 0 [0] spec_l01New.h 0 (sub spec_l01New.c [1, 1, 0, 1, 0, 0])) j (spec_l01New.S0 p) (kBlk 0 (kSeq (runK spec_l01New.x k 0 [0] spec_l01New.h 0 (sub spec_l01New.c [1, 1, 1])) (fin tt spec_l01New.ps spec_l01New.rs spec_l01New.vs (.two (.sl 5 (.int .u8)) (.two (.int .i64) (.int .i64))))))
theorem spec_l01New.D0_eq (k : Nat) : ∀ j, spec_l01New.D0 k j = spec_l01New.l0 k j := by
  intro j
  induction j with
  | zero => rfl
  | succ j ih =>
    show _ = spec_l01New.s0 k (spec_l01New.l0 k j)
    rw [← ih]
    funext p
    kernel_rfl
def spec_l01New.f (k : Nat) (a0 : List (Int)) : Option ((List (Int)) × Int × Int) :=
  spec_l01New.l0 k k ((IntKind.i64.wrap ((36201 : Int) + (a0.length : Int))), (0 : Int), a0)
def spec_l01New.K : Ctr := ⟨spec_l01New.ps, spec_l01New.rs, true, (.sl 5 (.int .u8)), (.two (.sl 5 (.int .u8)) (.two (.int .i64) (.int .i64))), fun k x => spec_l01New.f k x⟩
theorem spec_l01New.eq (k : Nat) (x : (spec_l01New.K.I).den) : func spec_l01New.x spec_l01New.h spec_l01New.ps spec_l01New.rs spec_l01New.vs spec_l01New.K.I spec_l01New.K.O spec_l01New.c k x = spec_l01New.K.run k x := by
  show _ = spec_l01New.f k x
  unfold spec_l01New.f
  rw [← spec_l01New.D0_eq k k]
  kernel_rfl
theorem spec_l01New.ok : CtrOk Try.prog 59 spec_l01New.K :=
  CtrOk.of (fn := Try.f59) (cd := spec_l01New.c) (cx := spec_l01New.x) (hs := spec_l01New.h) (by kernel_rfl) (by kernel_rfl) (by kernel_rfl) (by kernel_rfl) tt_ok (envOk_nil) (by kernel_rfl) (by kernel_rfl) (by kernel_rfl) (by kernel_rfl) fun k x r h => (spec_l01New.eq k x).trans h
/-! spec.l01Byte -/
noncomputable def spec_l01Byte.c : Code := bodyOf Try.f88
def spec_l01Byte.h : Nat → Hint := look ⟨[], [], []⟩ []
def spec_l01Byte.ps : List PK := [.box 139 3]
def spec_l01Byte.rs : List RK := [.one true]
def spec_l01Byte.vs : List ResultVar := [.tmp 2]
def spec_l01Byte.x : Cx := ⟨tt, look none []⟩
def spec_l01Byte.f (_k : Nat) (a0_0 : List (Int)) (a0_1 : Int) (a0_2 : Int) : Option (Int × (List (Int)) × Int × Int) :=
  (bif (decide (a0_1 < (a0_0.length : Int))) then (bif ((decide ((0 : Int) ≤ a0_1)) && (decide (a0_1 < (a0_0.length : Int)))) then (a0_0[a0_1.toNat]?).bind fun x1 => some ((IntKind.i64.wrap (((BitVec.ofInt IntKind.i64.bits (IntKind.i64.wrap ((IntKind.i64.wrap (((BitVec.ofInt IntKind.i64.bits (IntKind.i64.wrap (((BitVec.ofInt IntKind.i64.bits ((IntKind.i64.wrap ((IntKind.i64.wrap (a0_2 * (6364136223846793005 : Int))) + (1442695040888963407 : Int))).fdiv (2 ^ 33))) ^^^ (BitVec.ofInt IntKind.i64.bits ((IntKind.i64.wrap ((IntKind.i64.wrap (a0_2 * (6364136223846793005 : Int))) + (1442695040888963407 : Int))).fdiv (2 ^ 45)))).toNat : Int))) &&& (BitVec.ofInt IntKind.i64.bits (255 : Int))).toNat : Int)) + (IntKind.i64.wrap x1)))) &&& (BitVec.ofInt IntKind.i64.bits (255 : Int))).toNat : Int)), a0_0, (IntKind.i64.wrap (a0_1 + (1 : Int))), (IntKind.i64.wrap ((IntKind.i64.wrap (a0_2 * (6364136223846793005 : Int))) + (1442695040888963407 : Int)))) else none) else some ((IntKind.i64.wrap (((BitVec.ofInt IntKind.i64.bits (IntKind.i64.wrap (((BitVec.ofInt IntKind.i64.bits ((IntKind.i64.wrap ((IntKind.i64.wrap (a0_2 * (6364136223846793005 : Int))) + (1442695040888963407 : Int))).fdiv (2 ^ 33))) ^^^ (BitVec.ofInt IntKind.i64.bits ((IntKind.i64.wrap ((IntKind.i64.wrap (a0_2 * (6364136223846793005 : Int))) + (1442695040888963407 : Int))).fdiv (2 ^ 45)))).toNat : Int))) &&& (BitVec.ofInt IntKind.i64.bits (255 : Int))).toNat : Int)), a0_0, a0_1, (IntKind.i64.wrap ((IntKind.i64.wrap (a0_2 * (6364136223846793005 : Int))) + (1442695040888963407 : Int)))))
def spec_l01Byte.K : Ctr := ⟨spec_l01Byte.ps, spec_l01Byte.rs, true, (.two (.sl 5 (.int .u8)) (.two (.int .i64) (.int .i64))), (.two (.int .i64) (.two (.sl 5 (.int .u8)) (.two (.int .i64) (.int .i64)))), fun k x => spec_l01Byte.f k x.1 x.2.1 x.2.2⟩
theorem spec_l01Byte.eq (k : Nat) (x : (spec_l01Byte.K.I).den) : func spec_l01Byte.x spec_l01Byte.h spec_l01Byte.ps spec_l01Byte.rs spec_l01Byte.vs spec_l01Byte.K.I spec_l01Byte.K.O spec_l01Byte.c k x = spec_l01Byte.K.run k x := by
  show _ = spec_l01Byte.f k x.1 x.2.1 x.2.2
  kernel_rfl
theorem spec_l01Byte.ok : CtrOk Try.prog 88 spec_l01Byte.K :=
  CtrOk.of (fn := Try.f88) (cd := spec_l01Byte.c) (cx := spec_l01Byte.x) (hs := spec_l01Byte.h) (by kernel_rfl) (by kernel_rfl) (by kernel_rfl) (by kernel_rfl) tt_ok (envOk_nil) (by kernel_rfl) (by kernel_rfl) (by kernel_rfl) (by kernel_rfl) fun k x r h => (spec_l01Byte.eq k x).trans h
/-! spec.l01Below -/
noncomputable def spec_l01Below.c : Code := bodyOf Try.f61
def spec_l01Below.h : Nat → Hint := look ⟨[], [], []⟩ []
def spec_l01Below.ps : List PK := [.box 139 3, .one]
def spec_l01Below.rs : List RK := [.one true]
def spec_l01Below.vs : List ResultVar := [.tmp 4]
def spec_l01Below.x : Cx := ⟨tt, look none [(88, some spec_l01Byte.K)]⟩
def spec_l01Below.f (k : Nat) (a0_0 : List (Int)) (a0_1 : Int) (a0_2 : Int) (a1 : Int) : Option (Int × (List (Int)) × Int × Int) :=
  (bif (decide (a1 ≤ (0 : Int))) then some ((0 : Int), a0_0, a0_1, a0_2) else (bif (decide (a1 ≤ (256 : Int))) then (spec_l01Byte.f k a0_0 a0_1 a0_2).bind fun r1 => (bif (a1 == 0) then none else some ((r1.1.tmod a1), r1.2.1, r1.2.2.1, r1.2.2.2)) else (spec_l01Byte.f k a0_0 a0_1 a0_2).bind fun r2 => (spec_l01Byte.f k r2.2.1 r2.2.2.1 r2.2.2.2).bind fun r3 => (spec_l01Byte.f k r3.2.1 r3.2.2.1 r3.2.2.2).bind fun r4 => (spec_l01Byte.f k r4.2.1 r4.2.2.1 r4.2.2.2).bind fun r5 => (bif (a1 == 0) then none else some (((IntKind.i64.wrap ((IntKind.i64.wrap ((IntKind.i64.wrap ((IntKind.i64.wrap (r2.1 * (16777216 : Int))) + (IntKind.i64.wrap (r3.1 * (65536 : Int))))) + (IntKind.i64.wrap (r4.1 * (256 : Int))))) + r5.1)).tmod a1), r5.2.1, r5.2.2.1, r5.2.2.2))))
def spec_l01Below.K : Ctr := ⟨spec_l01Below.ps, spec_l01Below.rs, true, (.two (.sl 5 (.int .u8)) (.two (.int .i64) (.two (.int .i64) (.int .i64)))), (.two (.int .i64) (.two (.sl 5 (.int .u8)) (.two (.int .i64) (.int .i64)))), fun k x => spec_l01Below.f k x.1 x.2.1 x.2.2.1 x.2.2.2⟩
theorem spec_l01Below.eq (k : Nat) (x : (spec_l01Below.K.I).den) : func spec_l01Below.x spec_l01Below.h spec_l01Below.ps spec_l01Below.rs spec_l01Below.vs spec_l01Below.K.I spec_l01Below.K.O spec_l01Below.c k x = spec_l01Below.K.run k x := by
  show _ = spec_l01Below.f k x.1 x.2.1 x.2.2.1 x.2.2.2
  kernel_rfl
theorem spec_l01Below.ok : CtrOk Try.prog 61 spec_l01Below.K :=
  CtrOk.of (fn := Try.f61) (cd := spec_l01Below.c) (cx := spec_l01Below.x) (hs := spec_l01Below.h) (by kernel_rfl) (by kernel_rfl) (by kernel_rfl) (by kernel_rfl) tt_ok (envOk_cons spec_l01Byte.ok (envOk_nil)) (by kernel_rfl) (by kernel_rfl) (by kernel_rfl) (by kernel_rfl) fun k x r h => (spec_l01Below.eq k x).trans h
/-! spec.l01PickInt -/
noncomputable def spec_l01PickInt.c : Code := bodyOf Try.f123
def spec_l01PickInt.h : Nat → Hint := look ⟨[], [], []⟩ []
def spec_l01PickInt.ps : List PK := [.box 139 3, .one]
def spec_l01PickInt.rs : List RK := [.one true]
def spec_l01PickInt.vs : List ResultVar := [.tmp 4]
def spec_l01PickInt.x : Cx := ⟨tt, look none [(61, some spec_l01Below.K)]⟩
def spec_l01PickInt.f (k : Nat) (a0_0 : List (Int)) (a0_1 : Int) (a0_2 : Int) (a1 : List (Int)) : Option (Int × (List (Int)) × Int × Int) :=
  (spec_l01Below.f k a0_0 a0_1 a0_2 (a1.length : Int)).bind fun r1 => (bif ((decide ((0 : Int) ≤ r1.1)) && (decide (r1.1 < (a1.length : Int)))) then (a1[r1.1.toNat]?).bind fun x2 => some (x2, r1.2.1, r1.2.2.1, r1.2.2.2) else none)
def spec_l01PickInt.K : Ctr := ⟨spec_l01PickInt.ps, spec_l01PickInt.rs, true, (.two (.sl 5 (.int .u8)) (.two (.int .i64) (.two (.int .i64) (.sl 3 (.int .i64))))), (.two (.int .i64) (.two (.sl 5 (.int .u8)) (.two (.int .i64) (.int .i64)))), fun k x => spec_l01PickInt.f k x.1 x.2.1 x.2.2.1 x.2.2.2⟩
theorem spec_l01PickInt.eq (k : Nat) (x : (spec_l01PickInt.K.I).den) : func spec_l01PickInt.x spec_l01PickInt.h spec_l01PickInt.ps spec_l01PickInt.rs spec_l01PickInt.vs spec_l01PickInt.K.I spec_l01PickInt.K.O spec_l01PickInt.c k x = spec_l01PickInt.K.run k x := by
  show _ = spec_l01PickInt.f k x.1 x.2.1 x.2.2.1 x.2.2.2
  kernel_rfl
theorem spec_l01PickInt.ok : CtrOk Try.prog 123 spec_l01PickInt.K :=
  CtrOk.of (fn := Try.f123) (cd := spec_l01PickInt.c) (cx := spec_l01PickInt.x) (hs := spec_l01PickInt.h) (by kernel_rfl) (by kernel_rfl) (by kernel_rfl) (by kernel_rfl) tt_ok (envOk_cons spec_l01Below.ok (envOk_nil)) (by kernel_rfl) (by kernel_rfl) (by kernel_rfl) (by kernel_rfl) fun k x r h => (spec_l01PickInt.eq k x).trans h
/-! spec.l01In -/
noncomputable def spec_l01In.c : Code := bodyOf Try.f98
def spec_l01In.h : Nat → Hint := look ⟨[], [], []⟩ []
def spec_l01In.ps : List PK := [.one, .one, .one]
def spec_l01In.rs : List RK := [.one true]
def spec_l01In.vs : List ResultVar := [.tmp 6]
def spec_l01In.x : Cx := ⟨tt, look none []⟩
def spec_l01In.f (_k : Nat) (a0 : Int) (a1 : Int) (a2 : Int) : Option (Bool) :=
  (bif (decide (a0 ≥ a1)) then some (decide (a0 ≤ a2)) else some false)
def spec_l01In.K : Ctr := ⟨spec_l01In.ps, spec_l01In.rs, false, (.two (.int .i64) (.two (.int .i64) (.int .i64))), .bool, fun k x => spec_l01In.f k x.1 x.2.1 x.2.2⟩
theorem spec_l01In.eq (k : Nat) (x : (spec_l01In.K.I).den) : func spec_l01In.x spec_l01In.h spec_l01In.ps spec_l01In.rs spec_l01In.vs spec_l01In.K.I spec_l01In.K.O spec_l01In.c k x = spec_l01In.K.run k x := by
  show _ = spec_l01In.f k x.1 x.2.1 x.2.2
  kernel_rfl
theorem spec_l01In.ok : CtrOk Try.prog 98 spec_l01In.K :=
  CtrOk.of (fn := Try.f98) (cd := spec_l01In.c) (cx := spec_l01In.x) (hs := spec_l01In.h) (by kernel_rfl) (by kernel_rfl) (by kernel_rfl) (by kernel_rfl) tt_ok (envOk_nil) (by kernel_rfl) (by kernel_rfl) (by kernel_rfl) (by kernel_rfl) fun k x r h => (spec_l01In.eq k x).trans h
/-! spec.AddrOk -/
noncomputable def spec_AddrOk.c : Code := bodyOf Try.f101
def spec_AddrOk.h : Nat → Hint := look ⟨[], [], []⟩ []
def spec_AddrOk.ps : List PK := [.one]
def spec_AddrOk.rs : List RK := [.one true]
def spec_AddrOk.vs : List ResultVar := [.tmp 2]
def spec_AddrOk.x : Cx := ⟨tt, look none [(98, some spec_l01In.K)]⟩
def spec_AddrOk.f (k : Nat) (a0 : Int) : Option (Bool) :=
  (spec_l01In.f k a0 (0 : Int) (4294967295 : Int)).bind fun r1 => some r1
def spec_AddrOk.K : Ctr := ⟨spec_AddrOk.ps, spec_AddrOk.rs, false, (.int .i64), .bool, fun k x => spec_AddrOk.f k x⟩
theorem spec_AddrOk.eq (k : Nat) (x : (spec_AddrOk.K.I).den) : func spec_AddrOk.x spec_AddrOk.h spec_AddrOk.ps spec_AddrOk.rs spec_AddrOk.vs spec_AddrOk.K.I spec_AddrOk.K.O spec_AddrOk.c k x = spec_AddrOk.K.run k x := by
  show _ = spec_AddrOk.f k x
  kernel_rfl
theorem spec_AddrOk.ok : CtrOk Try.prog 101 spec_AddrOk.K :=
  CtrOk.of (fn := Try.f101) (cd := spec_AddrOk.c) (cx := spec_AddrOk.x) (hs := spec_AddrOk.h) (by kernel_rfl) (by kernel_rfl) (by kernel_rfl) (by kernel_rfl) tt_ok (envOk_cons spec_l01In.ok (envOk_nil)) (by kernel_rfl) (by kernel_rfl) (by kernel_rfl) (by kernel_rfl) fun k x r h => (spec_AddrOk.eq k x).trans h
/-! spec.l08Size -/
noncomputable def spec_l08Size.c : Code := bodyOf Try.f102
def spec_l08Size.h : Nat → Hint := look ⟨[], [], []⟩ [(0, ⟨[3, 4], [], []⟩)]
def spec_l08Size.ps : List PK := [.one]
def spec_l08Size.rs : List RK := [.one true]
def spec_l08Size.vs : List ResultVar := [.tmp 2]
def spec_l08Size.x : Cx := ⟨tt, look none []⟩
def spec_l08Size.s0 (_k : Nat) (rec0 : (Int × Int) → Option (Int)) (p : (Int × Int)) : Option (Int) :=
  (bif (decide (p.2 < (32 : Int))) then rec0 ((IntKind.i64.wrap ((2 : Int) * p.1)), (IntKind.i64.wrap (p.2 + (1 : Int)))) else some p.1)
def spec_l08Size.l0 (k : Nat) : Nat → (Int × Int) → Option (Int)
  | 0 => fun _ => none
  | j + 1 => spec_l08Size.s0 k (spec_l08Size.l0 k j)
def spec_l08Size.S0 (p : (Int × Int)) : DS := ⟨tl [(3, .at (.int .i64 p.1)), (4, .at (.int .i64 p.2))], lookO []⟩
noncomputable def spec_l08Size.D0 (k : Nat) (j : Nat) (p : (Int × Int)) : Option (Int) := loopK (norm [] (spec_l08Size.h 0)) (runK spec_l08Size.x k 0 [] spec_l08Size.h 0 (sub spec_l08Size.c [1, 1, 0, 1, 0, 0])) j (spec_l08Size.S0 p) (kBlk 0 (kSeq (runK spec_l08Size.x k 0 [] spec_l08Size.h 0 (sub spec_l08Size.c [1, 1, 1])) (fin tt spec_l08Size.ps spec_l08Size.rs spec_l08Size.vs (.int .i64))))
theorem spec_l08Size.D0_eq (k : Nat) : ∀ j, spec_l08Size.D0 k j = spec_l08Size.l0 k j := by
  intro j
  induction j with
  | zero => rfl
  | succ j ih =>
    show _ = spec_l08Size.s0 k (spec_l08Size.l0 k j)
    rw [← ih]
    funext p
    kernel_rfl
def spec_l08Size.f (k : Nat) (a0 : Int) : Option (Int) :=
  spec_l08Size.l0 k k ((1 : Int), a0)
def spec_l08Size.K : Ctr := ⟨spec_l08Size.ps, spec_l08Size.rs, false, (.int .i64), (.int .i64), fun k x => spec_l08Size.f k x⟩
theorem spec_l08Size.eq (k : Nat) (x : (spec_l08Size.K.I).den) : func spec_l08Size.x spec_l08Size.h spec_l08Size.ps spec_l08Size.rs spec_l08Size.vs spec_l08Size.K.I spec_l08Size.K.O spec_l08Size.c k x = spec_l08Size.K.run k x := by
  show _ = spec_l08Size.f k x
  unfold spec_l08Size.f
  rw [← spec_l08Size.D0_eq k k]
  kernel_rfl
theorem spec_l08Size.ok : CtrOk Try.prog 102 spec_l08Size.K :=
  CtrOk.of (fn := Try.f102) (cd := spec_l08Size.c) (cx := spec_l08Size.x) (hs := spec_l08Size.h) (by kernel_rfl) (by kernel_rfl) (by kernel_rfl) (by kernel_rfl) tt_ok (envOk_nil) (by kernel_rfl) (by kernel_rfl) (by kernel_rfl) (by kernel_rfl) fun k x r h => (spec_l08Size.eq k x).trans h
/-! spec.PrefixOf -/
noncomputable def spec_PrefixOf.c : Code := bodyOf Try.f122
def spec_PrefixOf.h : Nat → Hint := look ⟨[], [], []⟩ []
def spec_PrefixOf.ps : List PK := [.one, .one]
def spec_PrefixOf.rs : List RK := [.agg 2 true, .one true]
def spec_PrefixOf.vs : List ResultVar := [.cell 4 29, .tmp 5]
def spec_PrefixOf.x : Cx := ⟨tt, look none [(101, some spec_AddrOk.K), (98, some spec_l01In.K), (102, some spec_l08Size.K)]⟩
def spec_PrefixOf.f (k : Nat) (a0 : Int) (a1 : Int) : Option (Int × Int × Bool) :=
  (spec_AddrOk.f k a0).bind fun r1 => (bif (!r1) then some ((0 : Int), (0 : Int), false) else (spec_l01In.f k a1 (0 : Int) (32 : Int)).bind fun r2 => (bif (!r2) then some ((0 : Int), (0 : Int), false) else (spec_l08Size.f k a1).bind fun r3 => (bif (r3 == 0) then none else some ((IntKind.i64.wrap (a0 - (a0.tmod r3))), a1, true))))
def spec_PrefixOf.K : Ctr := ⟨spec_PrefixOf.ps, spec_PrefixOf.rs, false, (.two (.int .i64) (.int .i64)), (.two (.int .i64) (.two (.int .i64) .bool)), fun k x => spec_PrefixOf.f k x.1 x.2⟩
theorem spec_PrefixOf.eq (k : Nat) (x : (spec_PrefixOf.K.I).den) : func spec_PrefixOf.x spec_PrefixOf.h spec_PrefixOf.ps spec_PrefixOf.rs spec_PrefixOf.vs spec_PrefixOf.K.I spec_PrefixOf.K.O spec_PrefixOf.c k x = spec_PrefixOf.K.run k x := by
  show _ = spec_PrefixOf.f k x.1 x.2
  kernel_rfl
theorem spec_PrefixOf.ok : CtrOk Try.prog 122 spec_PrefixOf.K :=
  CtrOk.of (fn := Try.f122) (cd := spec_PrefixOf.c) (cx := spec_PrefixOf.x) (hs := spec_PrefixOf.h) (by kernel_rfl) (by kernel_rfl) (by kernel_rfl) (by kernel_rfl) tt_ok (envOk_cons spec_AddrOk.ok (envOk_cons spec_l01In.ok (envOk_cons spec_l08Size.ok (envOk_nil)))) (by kernel_rfl) (by kernel_rfl) (by kernel_rfl) (by kernel_rfl) fun k x r h => (spec_PrefixOf.eq k x).trans h
/-! spec.PrefixOk -/
noncomputable def spec_PrefixOk.c : Code := bodyOf Try.f100
def spec_PrefixOk.h : Nat → Hint := look ⟨[], [], []⟩ []
def spec_PrefixOk.ps : List PK := [.agg 2]
def spec_PrefixOk.rs : List RK := [.one true]
def spec_PrefixOk.vs : List ResultVar := [.tmp 2]
def spec_PrefixOk.x : Cx := ⟨tt, look none [(101, some spec_AddrOk.K), (98, some spec_l01In.K), (102, some spec_l08Size.K)]⟩
def spec_PrefixOk.f (k : Nat) (a0_0 : Int) (a0_1 : Int) : Option (Bool) :=
  (spec_AddrOk.f k a0_0).bind fun r1 => (bif r1 then (spec_l01In.f k a0_1 (0 : Int) (32 : Int)).bind fun r2 => (bif r2 then (spec_l08Size.f k a0_1).bind fun r3 => (bif (r3 == 0) then none else some ((a0_0.tmod r3) == (0 : Int))) else some false) else some false)
def spec_PrefixOk.K : Ctr := ⟨spec_PrefixOk.ps, spec_PrefixOk.rs, false, (.two (.int .i64) (.int .i64)), .bool, fun k x => spec_PrefixOk.f k x.1 x.2⟩
theorem spec_PrefixOk.eq (k : Nat) (x : (spec_PrefixOk.K.I).den) : func spec_PrefixOk.x spec_PrefixOk.h spec_PrefixOk.ps spec_PrefixOk.rs spec_PrefixOk.vs spec_PrefixOk.K.I spec_PrefixOk.K.O spec_PrefixOk.c k x = spec_PrefixOk.K.run k x := by
  show _ = spec_PrefixOk.f k x.1 x.2
  kernel_rfl
theorem spec_PrefixOk.ok : CtrOk Try.prog 100 spec_PrefixOk.K :=
  CtrOk.of (fn := Try.f100) (cd := spec_PrefixOk.c) (cx := spec_PrefixOk.x) (hs := spec_PrefixOk.h) (by kernel_rfl) (by kernel_rfl) (by kernel_rfl) (by kernel_rfl) tt_ok (envOk_cons spec_AddrOk.ok (envOk_cons spec_l01In.ok (envOk_cons spec_l08Size.ok (envOk_nil)))) (by kernel_rfl) (by kernel_rfl) (by kernel_rfl) (by kernel_rfl) fun k x r h => (spec_PrefixOk.eq k x).trans h
/-! spec.InPrefix -/
noncomputable def spec_InPrefix.c : Code := bodyOf Try.f42
def spec_InPrefix.h : Nat → Hint := look ⟨[], [], []⟩ []
def spec_InPrefix.ps : List PK := [.agg 2, .one]
def spec_InPrefix.rs : List RK := [.one true]
def spec_InPrefix.vs : List ResultVar := [.tmp 4]
def spec_InPrefix.x : Cx := ⟨tt, look none [(100, some spec_PrefixOk.K), (101, some spec_AddrOk.K), (102, some spec_l08Size.K)]⟩
def spec_InPrefix.f (k : Nat) (a0_0 : Int) (a0_1 : Int) (a1 : Int) : Option (Bool) :=
  (spec_PrefixOk.f k a0_0 a0_1).bind fun r1 => (bif r1 then (spec_AddrOk.f k a1).bind fun r2 => (bif r2 then (spec_l08Size.f k a0_1).bind fun r3 => (bif (r3 == 0) then none else some ((IntKind.i64.wrap (a1 - (a1.tmod r3))) == a0_0)) else some false) else some false)
def spec_InPrefix.K : Ctr := ⟨spec_InPrefix.ps, spec_InPrefix.rs, false, (.two (.int .i64) (.two (.int .i64) (.int .i64))), .bool, fun k x => spec_InPrefix.f k x.1 x.2.1 x.2.2⟩
theorem spec_InPrefix.eq (k : Nat) (x : (spec_InPrefix.K.I).den) : func spec_InPrefix.x spec_InPrefix.h spec_InPrefix.ps spec_InPrefix.rs spec_InPrefix.vs spec_InPrefix.K.I spec_InPrefix.K.O spec_InPrefix.c k x = spec_InPrefix.K.run k x := by
  show _ = spec_InPrefix.f k x.1 x.2.1 x.2.2
  kernel_rfl
theorem spec_InPrefix.ok : CtrOk Try.prog 42 spec_InPrefix.K :=
  CtrOk.of (fn := Try.f42) (cd := spec_InPrefix.c) (cx := spec_InPrefix.x) (hs := spec_InPrefix.h) (by kernel_rfl) (by kernel_rfl) (by kernel_rfl) (by kernel_rfl) tt_ok (envOk_cons spec_PrefixOk.ok (envOk_cons spec_AddrOk.ok (envOk_cons spec_l08Size.ok (envOk_nil)))) (by kernel_rfl) (by kernel_rfl) (by kernel_rfl) (by kernel_rfl) fun k x r h => (spec_InPrefix.eq k x).trans h
/-! spec.l11Inside -/
noncomputable def spec_l11Inside.c : Code := bodyOf Try.f136
def spec_l11Inside.h : Nat → Hint := look ⟨[], [], []⟩ []
def spec_l11Inside.ps : List PK := [.agg 4, .one]
def spec_l11Inside.rs : List RK := [.one true]
def spec_l11Inside.vs : List ResultVar := [.tmp 4]
def spec_l11Inside.x : Cx := ⟨tt, look none [(42, some spec_InPrefix.K), (102, some spec_l08Size.K)]⟩
def spec_l11Inside.f (k : Nat) (a0_0 : Int) (a0_1 : Int) (_a0_2 : List (Int × Int × Int)) (_a0_3 : List (Int × Int)) (a1 : Int) : Option (Bool) :=
  (spec_InPrefix.f k a0_0 a0_1 a1).bind fun r1 => (bif r1 then (bif (a1 != a0_0) then (spec_l08Size.f k a0_1).bind fun r2 => some (a1 != (IntKind.i64.wrap ((IntKind.i64.wrap (a0_0 + r2)) - (1 : Int)))) else some false) else some false)
def spec_l11Inside.K : Ctr := ⟨spec_l11Inside.ps, spec_l11Inside.rs, false, (.two (.int .i64) (.two (.int .i64) (.two (.sl 63 (.two (.int .i64) (.two (.int .i64) (.int .i64)))) (.two (.sl 150 (.two (.int .i64) (.int .i64))) (.int .i64))))), .bool, fun k x => spec_l11Inside.f k x.1 x.2.1 x.2.2.1 x.2.2.2.1 x.2.2.2.2⟩
theorem spec_l11Inside.eq (k : Nat) (x : (spec_l11Inside.K.I).den) : func spec_l11Inside.x spec_l11Inside.h spec_l11Inside.ps spec_l11Inside.rs spec_l11Inside.vs spec_l11Inside.K.I spec_l11Inside.K.O spec_l11Inside.c k x = spec_l11Inside.K.run k x := by
  show _ = spec_l11Inside.f k x.1 x.2.1 x.2.2.1 x.2.2.2.1 x.2.2.2.2
  kernel_rfl
theorem spec_l11Inside.ok : CtrOk Try.prog 136 spec_l11Inside.K :=
  CtrOk.of (fn := Try.f136) (cd := spec_l11Inside.c) (cx := spec_l11Inside.x) (hs := spec_l11Inside.h) (by kernel_rfl) (by kernel_rfl) (by kernel_rfl) (by kernel_rfl) tt_ok (envOk_cons spec_InPrefix.ok (envOk_cons spec_l08Size.ok (envOk_nil))) (by kernel_rfl) (by kernel_rfl) (by kernel_rfl) (by kernel_rfl) fun k x r h => (spec_l11Inside.eq k x).trans h
/-! spec.l11FixedFor -/
noncomputable def spec_l11FixedFor.c : Code := bodyOf Try.f137
def spec_l11FixedFor.h : Nat → Hint := look ⟨[], [], []⟩ [(0, ⟨[1, 2, 5], [32], []⟩)]
def spec_l11FixedFor.ps : List PK := [.agg 4, .one]
def spec_l11FixedFor.rs : List RK := [.one true]
def spec_l11FixedFor.vs : List ResultVar := [.tmp 4]
def spec_l11FixedFor.x : Cx := ⟨tt, look none []⟩
def spec_l11FixedFor.s0 (_k : Nat) (rec0 : (Int × Int × (List (Int × Int × Int)) × (List (Int × Int)) × Int × Int) → Option (Int)) (p : (Int × Int × (List (Int × Int × Int)) × (List (Int × Int)) × Int × Int)) : Option (Int) :=
  (bif (decide (p.2.1 < (p.2.2.2.1.length : Int))) then (bif ((decide ((0 : Int) ≤ p.2.1)) && (decide (p.2.1 < (p.2.2.2.1.length : Int)))) then (p.2.2.2.1[p.2.1.toNat]?).bind fun x1 => (bif (x1.2 == p.1) then (bif ((decide ((0 : Int) ≤ p.2.1)) && (decide (p.2.1 < (p.2.2.2.1.length : Int)))) then (p.2.2.2.1[p.2.1.toNat]?).bind fun x2 => some x2.1 else none) else rec0 (p.1, (IntKind.i64.wrap (p.2.1 + (1 : Int))), p.2.2.1, p.2.2.2.1, p.2.2.2.2.1, p.2.2.2.2.2)) else none) else some (0 : Int))
def spec_l11FixedFor.l0 (k : Nat) : Nat → (Int × Int × (List (Int × Int × Int)) × (List (Int × Int)) × Int × Int) → Option (Int)
  | 0 => fun _ => none
  | j + 1 => spec_l11FixedFor.s0 k (spec_l11FixedFor.l0 k j)
def spec_l11FixedFor.S0 (p : (Int × Int × (List (Int × Int × Int)) × (List (Int × Int)) × Int × Int)) : DS := ⟨tl [(1, .at (.int .i64 p.1)), (2, .at (.bptr 32 0)), (5, .at (.int .i64 p.2.1))], lookO [(2, .row 63 (.two (.int .i64) (.two (.int .i64) (.int .i64))) false p.2.2.1), (3, .row 150 (.two (.int .i64) (.int .i64)) false p.2.2.2.1), (32, .box 50 [.int .i64 p.2.2.2.2.1, .int .i64 p.2.2.2.2.2, .whole 2, .whole 3])]⟩
noncomputable def spec_l11FixedFor.D0 (k : Nat) (j : Nat) (p : (Int × Int × (List (Int × Int × Int)) × (List (Int × Int)) × Int × Int)) : Option (Int) := loopK (norm [2, 3] (spec_l11FixedFor.h 0)) (runK spec_l11FixedFor.x k 0 [2, 3] spec_l11FixedFor.h 0 (sub spec_l11FixedFor.c [1, 0, 1, 0, 0])) j (spec_l11FixedFor.S0 p) (kBlk 0 (kSeq (runK spec_l11FixedFor.x k 0 [2, 3] spec_l11FixedFor.h 0 (sub spec_l11FixedFor.c [1, 1])) (fin tt spec_l11FixedFor.ps spec_l11FixedFor.rs spec_l11FixedFor.vs (.int .i64))))
theorem spec_l11FixedFor.D0_eq (k : Nat) : ∀ j, spec_l11FixedFor.D0 k j = spec_l11FixedFor.l0 k j := by
  intro j
  induction j with
  | zero => rfl
  | succ j ih =>
    show _ = spec_l11FixedFor.s0 k (spec_l11FixedFor.l0 k j)
    rw [← ih]
    funext p
    kernel_rfl
def spec_l11FixedFor.f (k : Nat) (a0_0 : Int) (a0_1 : Int) (a0_2 : List (Int × Int × Int)) (a0_3 : List (Int × Int)) (a1 : Int) : Option (Int) :=
  spec_l11FixedFor.l0 k k (a1, (0 : Int), a0_2, a0_3, a0_0, a0_1)
def spec_l11FixedFor.K : Ctr := ⟨spec_l11FixedFor.ps, spec_l11FixedFor.rs, false, (.two (.int .i64) (.two (.int .i64) (.two (.sl 63 (.two (.int .i64) (.two (.int .i64) (.int .i64)))) (.two (.sl 150 (.two (.int .i64) (.int .i64))) (.int .i64))))), (.int .i64), fun k x => spec_l11FixedFor.f k x.1 x.2.1 x.2.2.1 x.2.2.2.1 x.2.2.2.2⟩
theorem spec_l11FixedFor.eq (k : Nat) (x : (spec_l11FixedFor.K.I).den) : func spec_l11FixedFor.x spec_l11FixedFor.h spec_l11FixedFor.ps spec_l11FixedFor.rs spec_l11FixedFor.vs spec_l11FixedFor.K.I spec_l11FixedFor.K.O spec_l11FixedFor.c k x = spec_l11FixedFor.K.run k x := by
  show _ = spec_l11FixedFor.f k x.1 x.2.1 x.2.2.1 x.2.2.2.1 x.2.2.2.2
  unfold spec_l11FixedFor.f
  rw [← spec_l11FixedFor.D0_eq k k]
  kernel_rfl
theorem spec_l11FixedFor.ok : CtrOk Try.prog 137 spec_l11FixedFor.K :=
  CtrOk.of (fn := Try.f137) (cd := spec_l11FixedFor.c) (cx := spec_l11FixedFor.x) (hs := spec_l11FixedFor.h) (by kernel_rfl) (by kernel_rfl) (by kernel_rfl) (by kernel_rfl) tt_ok (envOk_nil) (by kernel_rfl) (by kernel_rfl) (by kernel_rfl) (by kernel_rfl) fun k x r h => (spec_l11FixedFor.eq k x).trans h
/-! spec.l01Once -/
noncomputable def spec_l01Once.c : Code := bodyOf Try.f138
def spec_l01Once.h : Nat → Hint := look ⟨[], [], []⟩ []
def spec_l01Once.ps : List PK := [.box 139 3, .one]
def spec_l01Once.rs : List RK := [.one true]
def spec_l01Once.vs : List ResultVar := [.tmp 4]
def spec_l01Once.x : Cx := ⟨tt, look none [(61, some spec_l01Below.K)]⟩
def spec_l01Once.f (k : Nat) (a0_0 : List (Int)) (a0_1 : Int) (a0_2 : Int) (a1 : Int) : Option (Bool × (List (Int)) × Int × Int) :=
  (spec_l01Below.f k a0_0 a0_1 a0_2 a1).bind fun r1 => some ((r1.1 == (0 : Int)), r1.2.1, r1.2.2.1, r1.2.2.2)
def spec_l01Once.K : Ctr := ⟨spec_l01Once.ps, spec_l01Once.rs, true, (.two (.sl 5 (.int .u8)) (.two (.int .i64) (.two (.int .i64) (.int .i64)))), (.two .bool (.two (.sl 5 (.int .u8)) (.two (.int .i64) (.int .i64)))), fun k x => spec_l01Once.f k x.1 x.2.1 x.2.2.1 x.2.2.2⟩
theorem spec_l01Once.eq (k : Nat) (x : (spec_l01Once.K.I).den) : func spec_l01Once.x spec_l01Once.h spec_l01Once.ps spec_l01Once.rs spec_l01Once.vs spec_l01Once.K.I spec_l01Once.K.O spec_l01Once.c k x = spec_l01Once.K.run k x := by
  show _ = spec_l01Once.f k x.1 x.2.1 x.2.2.1 x.2.2.2
  kernel_rfl
theorem spec_l01Once.ok : CtrOk Try.prog 138 spec_l01Once.K :=
  CtrOk.of (fn := Try.f138) (cd := spec_l01Once.c) (cx := spec_l01Once.x) (hs := spec_l01Once.h) (by kernel_rfl) (by kernel_rfl) (by kernel_rfl) (by kernel_rfl) tt_ok (envOk_cons spec_l01Below.ok (envOk_nil)) (by kernel_rfl) (by kernel_rfl) (by kernel_rfl) (by kernel_rfl) fun k x r h => (spec_l01Once.eq k x).trans h
/-! spec.l11Copy -/
noncomputable def spec_l11Copy.c : Code := bodyOf Try.f75
def spec_l11Copy.h : Nat → Hint := look ⟨[], [], []⟩ []
def spec_l11Copy.ps : List PK := [.agg 4]
def spec_l11Copy.rs : List RK := [.agg 4 true]
def spec_l11Copy.vs : List ResultVar := [.cell 2 50]
def spec_l11Copy.x : Cx := ⟨tt, look none []⟩
def spec_l11Copy.f (_k : Nat) (a0_0 : Int) (a0_1 : Int) (a0_2 : List (Int × Int × Int)) (a0_3 : List (Int × Int)) : Option (Int × Int × (List (Int × Int × Int)) × (List (Int × Int))) :=
  (bif decide ((([] : List (Int × Int × Int)).length + a0_2.length) * 24 ≤ 140737488355328) then (bif decide ((([] : List (Int × Int)).length + a0_3.length) * 16 ≤ 140737488355328) then some (a0_0, a0_1, (([] : List (Int × Int × Int)) ++ a0_2), (([] : List (Int × Int)) ++ a0_3)) else none) else none)
def spec_l11Copy.K : Ctr := ⟨spec_l11Copy.ps, spec_l11Copy.rs, false, (.two (.int .i64) (.two (.int .i64) (.two (.sl 63 (.two (.int .i64) (.two (.int .i64) (.int .i64)))) (.sl 150 (.two (.int .i64) (.int .i64)))))), (.two (.int .i64) (.two (.int .i64) (.two (.sl 63 (.two (.int .i64) (.two (.int .i64) (.int .i64)))) (.sl 150 (.two (.int .i64) (.int .i64)))))), fun k x => spec_l11Copy.f k x.1 x.2.1 x.2.2.1 x.2.2.2⟩
theorem spec_l11Copy.eq (k : Nat) (x : (spec_l11Copy.K.I).den) : func spec_l11Copy.x spec_l11Copy.h spec_l11Copy.ps spec_l11Copy.rs spec_l11Copy.vs spec_l11Copy.K.I spec_l11Copy.K.O spec_l11Copy.c k x = spec_l11Copy.K.run k x := by
  show _ = spec_l11Copy.f k x.1 x.2.1 x.2.2.1 x.2.2.2
  kernel_rfl
theorem spec_l11Copy.ok : CtrOk Try.prog 75 spec_l11Copy.K :=
  CtrOk.of (fn := Try.f75) (cd := spec_l11Copy.c) (cx := spec_l11Copy.x) (hs := spec_l11Copy.h) (by kernel_rfl) (by kernel_rfl) (by kernel_rfl) (by kernel_rfl) tt_ok (envOk_nil) (by kernel_rfl) (by kernel_rfl) (by kernel_rfl) (by kernel_rfl) fun k x r h => (spec_l11Copy.eq k x).trans h
end Go.Proofs.Ytfaeklomiofpdaa.DI
