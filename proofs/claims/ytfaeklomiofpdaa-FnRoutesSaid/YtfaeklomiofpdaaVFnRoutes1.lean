/- FnRoutes: functions as plain Lean, in the machine of values. -/
import Derived.Test.YtfaeklomiofpdaaVFnRoutes0
namespace Go.Proofs.Ytfaeklomiofpdaa.DI
open Go
set_option linter.unusedVariables false
/-! laws.big -/
noncomputable def laws_big.c : Code := bodyOf Try.f12
def laws_big.h : Nat → Hint := look ⟨[], [], []⟩ []
def laws_big.ps : List PK := [.one]
def laws_big.rs : List RK := [.one true]
def laws_big.vs : List ResultVar := [.tmp 2]
def laws_big.x : Cx := ⟨tt, look none []⟩
def laws_big.f (_k : Nat) (a0 : List (Int)) : Option (Bool) :=
  some (decide ((a0.length : Int) > (1048576 : Int)))
def laws_big.K : Ctr := ⟨laws_big.ps, laws_big.rs, false, (.sl 5 (.int .u8)), .bool, fun k x => laws_big.f k x⟩
theorem laws_big.eq (k : Nat) (x : (laws_big.K.I).den) : func laws_big.x laws_big.h laws_big.ps laws_big.rs laws_big.vs laws_big.K.I laws_big.K.O laws_big.c k x = laws_big.K.run k x := by
  show _ = laws_big.f k x
  kernel_rfl
theorem laws_big.ok : CtrOk Try.prog 12 laws_big.K :=
  CtrOk.of (fn := Try.f12) (cd := laws_big.c) (cx := laws_big.x) (hs := laws_big.h) (by kernel_rfl) (by kernel_rfl) (by kernel_rfl) (by kernel_rfl) tt_ok (envOk_nil) (by kernel_rfl) (by kernel_rfl) (by kernel_rfl) (by kernel_rfl) fun k x r h => (laws_big.eq k x).trans h
/-! spec.l01New -/
noncomputable def spec_l01New.c : Code := bodyOf Try.f59
def spec_l01New.h : Nat → Hint := look ⟨[], [], []⟩ [(0, ⟨[0, 3, 4], [], []⟩)]
def spec_l01New.ps : List PK := [.one]
def spec_l01New.rs : List RK := [.ptr 139 3 false]
def spec_l01New.vs : List ResultVar := [.tmp 2]
def spec_l01New.x : Cx := ⟨tt, look none []⟩
def spec_l01New.s0 (_k : Nat) (rec0 : (Int × Int × (List (Int))) → Option ((List (Int)) × Int × Int)) (p : (Int × Int × (List (Int)))) : Option ((List (Int)) × Int × Int) :=
  (bif (decide (p.2.1 < (p.2.2.length : Int))) then (bif (decide (p.2.1 < (4000 : Int))) then (bif ((decide ((0 : Int) ≤ p.2.1)) && (decide (p.2.1 < (p.2.2.length : Int)))) then (p.2.2[p.2.1.toNat]?).bind fun x1 => rec0 ((IntKind.i64.wrap (((BitVec.ofInt IntKind.i64.bits (IntKind.i64.wrap ((IntKind.i64.wrap ((IntKind.i64.wrap (p.1 * (131 : Int))) + (IntKind.i64.wrap x1))) + (7 : Int)))) &&& (BitVec.ofInt IntKind.i64.bits (1073741823 : Int))).toNat : Int)), (IntKind.i64.wrap (p.2.1 + (1 : Int))), p.2.2) else none) else some (p.2.2, (0 : Int), p.1)) else some (p.2.2, (0 : Int), p.1))
def spec_l01New.l0 (k : Nat) : Nat → (Int × Int × (List (Int))) → Option ((List (Int)) × Int × Int)
  | 0 => fun _ => none
  | j + 1 => spec_l01New.s0 k (spec_l01New.l0 k j)
def spec_l01New.S0 (p : (Int × Int × (List (Int)))) : DS := ⟨tl [(0, .at (.whole 0)), (3, .at (.int .i64 p.1)), (4, .at (.int .i64 p.2.1))], lookO [(0, .row 5 (.int .u8) false p.2.2)]⟩
noncomputable def spec_l01New.D0 (k : Nat) (j : Nat) (p : (Int × Int × (List (Int)))) : Option ((List (Int)) × Int × Int) := loopK (norm [0] (spec_l01New.h 0)) (runK spec_l01New.x k 0 [0] spec_l01New.h 0 (sub spec_l01New.c [1, 1, 0, 1, 0, 0])) j (spec_l01New.S0 p) (kBlk 0 (kSeq (runK spec_l01New.x k 0 [0] spec_l01New.h 0 (sub spec_l01New.c [1, 1, 1])) (fin tt spec_l01New.ps spec_l01New.rs spec_l01New.vs (.two (.sl 5 (.int .u8)) (.two (.int .i64) (.int .i64))))))
theorem spec_l01New.D0_eq (k : Nat) : ∀ j, spec_l01New.D0 k j = spec_l01New.l0 k j := by
  intro j
  induction j with
  | zero => rfl
  | succ j ih =>
    show _ = spec_l01New.s0 k (spec_l01New.l0 k j)
    rw [← ih]
    funext p
    kernel_rfl
def spec_l01New.f (k : Nat) (a0 : List (Int)) : Option ((List (Int)) × Int × Int) :=
  spec_l01New.l0 k k ((IntKind.i64.wrap ((36201 : Int) + (a0.length : Int))), (0 : Int), a0)
def spec_l01New.K : Ctr := ⟨spec_l01New.ps, spec_l01New.rs, true, (.sl 5 (.int .u8)), (.two (.sl 5 (.int .u8)) (.two (.int .i64) (.int .i64))), fun k x => spec_l01New.f k x⟩
theorem spec_l01New.eq (k : Nat) (x : (spec_l01New.K.I).den) : func spec_l01New.x spec_l01New.h spec_l01New.ps spec_l01New.rs spec_l01New.vs spec_l01New.K.I spec_l01New.K.O spec_l01New.c k x = spec_l01New.K.run k x := by
  show _ = spec_l01New.f k x
  unfold spec_l01New.f
  rw [← spec_l01New.D0_eq k k]
  kernel_rfl
theorem spec_l01New.ok : CtrOk Try.prog 59 spec_l01New.K :=
  CtrOk.of (fn := Try.f59) (cd := spec_l01New.c) (cx := spec_l01New.x) (hs := spec_l01New.h) (by kernel_rfl) (by kernel_rfl) (by kernel_rfl) (by kernel_rfl) tt_ok (envOk_nil) (by kernel_rfl) (by kernel_rfl) (by kernel_rfl) (by kernel_rfl) fun k x r h => (spec_l01New.eq k x).trans h
/-! spec.l01Byte -/
noncomputable def spec_l01Byte.c : Code := bodyOf Try.f88
def spec_l01Byte.h : Nat → Hint := look ⟨[], [], []⟩ []
def spec_l01Byte.ps : List PK := [.box 139 3]
def spec_l01Byte.rs : List RK := [.one true]
def spec_l01Byte.vs : List ResultVar := [.tmp 2]
def spec_l01Byte.x : Cx := ⟨tt, look none []⟩
def spec_l01Byte.f (_k : Nat) (a0_0 : List (Int)) (a0_1 : Int) (a0_2 : Int) : Option (Int × (List (Int)) × Int × Int) :=
  (bif (decide (a0_1 < (a0_0.length : Int))) then (bif ((decide ((0 : Int) ≤ a0_1)) && (decide (a0_1 < (a0_0.length : Int)))) then (a0_0[a0_1.toNat]?).bind fun x1 => some ((IntKind.i64.wrap (((BitVec.ofInt IntKind.i64.bits (IntKind.i64.wrap ((IntKind.i64.wrap (((BitVec.ofInt IntKind.i64.bits (IntKind.i64.wrap (((BitVec.ofInt IntKind.i64.bits ((IntKind.i64.wrap ((IntKind.i64.wrap (a0_2 * (6364136223846793005 : Int))) + (1442695040888963407 : Int))).fdiv (2 ^ 33))) ^^^ (BitVec.ofInt IntKind.i64.bits ((IntKind.i64.wrap ((IntKind.i64.wrap (a0_2 * (6364136223846793005 : Int))) + (1442695040888963407 : Int))).fdiv (2 ^ 45)))).toNat : Int))) &&& (BitVec.ofInt IntKind.i64.bits (255 : Int))).toNat : Int)) + (IntKind.i64.wrap x1)))) &&& (BitVec.ofInt IntKind.i64.bits (255 : Int))).toNat : Int)), a0_0, (IntKind.i64.wrap (a0_1 + (1 : Int))), (IntKind.i64.wrap ((IntKind.i64.wrap (a0_2 * (6364136223846793005 : Int))) + (1442695040888963407 : Int)))) else none) else some ((IntKind.i64.wrap (((BitVec.ofInt IntKind.i64.bits (IntKind.i64.wrap (((BitVec.ofInt IntKind.i64.bits ((IntKind.i64.wrap ((IntKind.i64.wrap (a0_2 * (6364136223846793005 : Int))) + (1442695040888963407 : Int))).fdiv (2 ^ 33))) ^^^ (BitVec.ofInt IntKind.i64.bits ((IntKind.i64.wrap ((IntKind.i64.wrap (a0_2 * (6364136223846793005 : Int))) + (1442695040888963407 : Int))).fdiv (2 ^ 45)))).toNat : Int))) &&& (BitVec.ofInt IntKind.i64.bits (255 : Int))).toNat : Int)), a0_0, a0_1, (IntKind.i64.wrap ((IntKind.i64.wrap (a0_2 * (6364136223846793005 : Int))) + (1442695040888963407 : Int)))))
def spec_l01Byte.K : Ctr := ⟨spec_l01Byte.ps, spec_l01Byte.rs, true, (.two (.sl 5 (.int .u8)) (.two (.int .i64) (.int .i64))), (.two (.int .i64) (.two (.sl 5 (.int .u8)) (.two (.int .i64) (.int .i64)))), fun k x => spec_l01Byte.f k x.1 x.2.1 x.2.2⟩
theorem spec_l01Byte.eq (k : Nat) (x : (spec_l01Byte.K.I).den) : func spec_l01Byte.x spec_l01Byte.h spec_l01Byte.ps spec_l01Byte.rs spec_l01Byte.vs spec_l01Byte.K.I spec_l01Byte.K.O spec_l01Byte.c k x = spec_l01Byte.K.run k x := by
  show _ = spec_l01Byte.f k x.1 x.2.1 x.2.2
  kernel_rfl
theorem spec_l01Byte.ok : CtrOk Try.prog 88 spec_l01Byte.K :=
  CtrOk.of (fn := Try.f88) (cd := spec_l01Byte.c) (cx := spec_l01Byte.x) (hs := spec_l01Byte.h) (by kernel_rfl) (by kernel_rfl) (by kernel_rfl) (by kernel_rfl) tt_ok (envOk_nil) (by kernel_rfl) (by kernel_rfl) (by kernel_rfl) (by kernel_rfl) fun k x r h => (spec_l01Byte.eq k x).trans h
/-! spec.l01Below -/
noncomputable def spec_l01Below.c : Code := bodyOf Try.f61
def spec_l01Below.h : Nat → Hint := look ⟨[], [], []⟩ []
def spec_l01Below.ps : List PK := [.box 139 3, .one]
def spec_l01Below.rs : List RK := [.one true]
def spec_l01Below.vs : List ResultVar := [.tmp 4]
def spec_l01Below.x : Cx := ⟨tt, look none [(88, some spec_l01Byte.K)]⟩
def spec_l01Below.f (k : Nat) (a0_0 : List (Int)) (a0_1 : Int) (a0_2 : Int) (a1 : Int) : Option (Int × (List (Int)) × Int × Int) :=
  (bif (decide (a1 ≤ (0 : Int))) then some ((0 : Int), a0_0, a0_1, a0_2) else (bif (decide (a1 ≤ (256 : Int))) then (spec_l01Byte.f k a0_0 a0_1 a0_2).bind fun r1 => (bif (a1 == 0) then none else some ((r1.1.tmod a1), r1.2.1, r1.2.2.1, r1.2.2.2)) else (spec_l01Byte.f k a0_0 a0_1 a0_2).bind fun r2 => (spec_l01Byte.f k r2.2.1 r2.2.2.1 r2.2.2.2).bind fun r3 => (spec_l01Byte.f k r3.2.1 r3.2.2.1 r3.2.2.2).bind fun r4 => (spec_l01Byte.f k r4.2.1 r4.2.2.1 r4.2.2.2).bind fun r5 => (bif (a1 == 0) then none else some (((IntKind.i64.wrap ((IntKind.i64.wrap ((IntKind.i64.wrap ((IntKind.i64.wrap (r2.1 * (16777216 : Int))) + (IntKind.i64.wrap (r3.1 * (65536 : Int))))) + (IntKind.i64.wrap (r4.1 * (256 : Int))))) + r5.1)).tmod a1), r5.2.1, r5.2.2.1, r5.2.2.2))))
def spec_l01Below.K : Ctr := ⟨spec_l01Below.ps, spec_l01Below.rs, true, (.two (.sl 5 (.int .u8)) (.two (.int .i64) (.two (.int .i64) (.int .i64)))), (.two (.int .i64) (.two (.sl 5 (.int .u8)) (.two (.int .i64) (.int .i64)))), fun k x => spec_l01Below.f k x.1 x.2.1 x.2.2.1 x.2.2.2⟩
theorem spec_l01Below.eq (k : Nat) (x : (spec_l01Below.K.I).den) : func spec_l01Below.x spec_l01Below.h spec_l01Below.ps spec_l01Below.rs spec_l01Below.vs spec_l01Below.K.I spec_l01Below.K.O spec_l01Below.c k x = spec_l01Below.K.run k x := by
  show _ = spec_l01Below.f k x.1 x.2.1 x.2.2.1 x.2.2.2
  kernel_rfl
theorem spec_l01Below.ok : CtrOk Try.prog 61 spec_l01Below.K :=
  CtrOk.of (fn := Try.f61) (cd := spec_l01Below.c) (cx := spec_l01Below.x) (hs := spec_l01Below.h) (by kernel_rfl) (by kernel_rfl) (by kernel_rfl) (by kernel_rfl) tt_ok (envOk_cons spec_l01Byte.ok (envOk_nil)) (by kernel_rfl) (by kernel_rfl) (by kernel_rfl) (by kernel_rfl) fun k x r h => (spec_l01Below.eq k x).trans h
/-! spec.l01PickInt -/
noncomputable def spec_l01PickInt.c : Code := bodyOf Try.f123
def spec_l01PickInt.h : Nat → Hint := look ⟨[], [], []⟩ []
def spec_l01PickInt.ps : List PK := [.box 139 3, .one]
def spec_l01PickInt.rs : List RK := [.one true]
def spec_l01PickInt.vs : List ResultVar := [.tmp 4]
def spec_l01PickInt.x : Cx := ⟨tt, look none [(61, some spec_l01Below.K)]⟩
def spec_l01PickInt.f (k : Nat) (a0_0 : List (Int)) (a0_1 : Int) (a0_2 : Int) (a1 : List (Int)) : Option (Int × (List (Int)) × Int × Int) :=
  (spec_l01Below.f k a0_0 a0_1 a0_2 (a1.length : Int)).bind fun r1 => (bif ((decide ((0 : Int) ≤ r1.1)) && (decide (r1.1 < (a1.length : Int)))) then (a1[r1.1.toNat]?).bind fun x2 => some (x2, r1.2.1, r1.2.2.1, r1.2.2.2) else none)
def spec_l01PickInt.K : Ctr := ⟨spec_l01PickInt.ps, spec_l01PickInt.rs, true, (.two (.sl 5 (.int .u8)) (.two (.int .i64) (.two (.int .i64) (.sl 3 (.int .i64))))), (.two (.int .i64) (.two (.sl 5 (.int .u8)) (.two (.int .i64) (.int .i64)))), fun k x => spec_l01PickInt.f k x.1 x.2.1 x.2.2.1 x.2.2.2⟩
theorem spec_l01PickInt.eq (k : Nat) (x : (spec_l01PickInt.K.I).den) : func spec_l01PickInt.x spec_l01PickInt.h spec_l01PickInt.ps spec_l01PickInt.rs spec_l01PickInt.vs spec_l01PickInt.K.I spec_l01PickInt.K.O spec_l01PickInt.c k x = spec_l01PickInt.K.run k x := by
  show _ = spec_l01PickInt.f k x.1 x.2.1 x.2.2.1 x.2.2.2
  kernel_rfl
theorem spec_l01PickInt.ok : CtrOk Try.prog 123 spec_l01PickInt.K :=
  CtrOk.of (fn := Try.f123) (cd := spec_l01PickInt.c) (cx := spec_l01PickInt.x) (hs := spec_l01PickInt.h) (by kernel_rfl) (by kernel_rfl) (by kernel_rfl) (by kernel_rfl) tt_ok (envOk_cons spec_l01Below.ok (envOk_nil)) (by kernel_rfl) (by kernel_rfl) (by kernel_rfl) (by kernel_rfl) fun k x r h => (spec_l01PickInt.eq k x).trans h
/-! spec.l01In -/
noncomputable def spec_l01In.c : Code := bodyOf Try.f98
def spec_l01In.h : Nat → Hint := look ⟨[], [], []⟩ []
def spec_l01In.ps : List PK := [.one, .one, .one]
def spec_l01In.rs : List RK := [.one true]
def spec_l01In.vs : List ResultVar := [.tmp 6]
def spec_l01In.x : Cx := ⟨tt, look none []⟩
def spec_l01In.f (_k : Nat) (a0 : Int) (a1 : Int) (a2 : Int) : Option (Bool) :=
  (bif (decide (a0 ≥ a1)) then some (decide (a0 ≤ a2)) else some false)
def spec_l01In.K : Ctr := ⟨spec_l01In.ps, spec_l01In.rs, false, (.two (.int .i64) (.two (.int .i64) (.int .i64))), .bool, fun k x => spec_l01In.f k x.1 x.2.1 x.2.2⟩
theorem spec_l01In.eq (k : Nat) (x : (spec_l01In.K.I).den) : func spec_l01In.x spec_l01In.h spec_l01In.ps spec_l01In.rs spec_l01In.vs spec_l01In.K.I spec_l01In.K.O spec_l01In.c k x = spec_l01In.K.run k x := by
  show _ = spec_l01In.f k x.1 x.2.1 x.2.2
  kernel_rfl
theorem spec_l01In.ok : CtrOk Try.prog 98 spec_l01In.K :=
  CtrOk.of (fn := Try.f98) (cd := spec_l01In.c) (cx := spec_l01In.x) (hs := spec_l01In.h) (by kernel_rfl) (by kernel_rfl) (by kernel_rfl) (by kernel_rfl) tt_ok (envOk_nil) (by kernel_rfl) (by kernel_rfl) (by kernel_rfl) (by kernel_rfl) fun k x r h => (spec_l01In.eq k x).trans h
/-! spec.AddrOk -/
noncomputable def spec_AddrOk.c : Code := bodyOf Try.f101
def spec_AddrOk.h : Nat → Hint := look ⟨[], [], []⟩ []
def spec_AddrOk.ps : List PK := [.one]
def spec_AddrOk.rs : List RK := [.one true]
def spec_AddrOk.vs : List ResultVar := [.tmp 2]
def spec_AddrOk.x : Cx := ⟨tt, look none [(98, some spec_l01In.K)]⟩
def spec_AddrOk.f (k : Nat) (a0 : Int) : Option (Bool) :=
  (spec_l01In.f k a0 (0 : Int) (4294967295 : Int)).bind fun r1 => some r1
def spec_AddrOk.K : Ctr := ⟨spec_AddrOk.ps, spec_AddrOk.rs, false, (.int .i64), .bool, fun k x => spec_AddrOk.f k x⟩
theorem spec_AddrOk.eq (k : Nat) (x : (spec_AddrOk.K.I).den) : func spec_AddrOk.x spec_AddrOk.h spec_AddrOk.ps spec_AddrOk.rs spec_AddrOk.vs spec_AddrOk.K.I spec_AddrOk.K.O spec_AddrOk.c k x = spec_AddrOk.K.run k x := by
  show _ = spec_AddrOk.f k x
  kernel_rfl
theorem spec_AddrOk.ok : CtrOk Try.prog 101 spec_AddrOk.K :=
  CtrOk.of (fn := Try.f101) (cd := spec_AddrOk.c) (cx := spec_AddrOk.x) (hs := spec_AddrOk.h) (by kernel_rfl) (by kernel_rfl) (by kernel_rfl) (by kernel_rfl) tt_ok (envOk_cons spec_l01In.ok (envOk_nil)) (by kernel_rfl) (by kernel_rfl) (by kernel_rfl) (by kernel_rfl) fun k x r h => (spec_AddrOk.eq k x).trans h
/-! spec.l08Size -/
noncomputable def spec_l08Size.c : Code := bodyOf Try.f102
def spec_l08Size.h : Nat → Hint := look ⟨[], [], []⟩ [(0, ⟨[3, 4], [], []⟩)]
def spec_l08Size.ps : List PK := [.one]
def spec_l08Size.rs : List RK := [.one true]
def spec_l08Size.vs : List ResultVar := [.tmp 2]
def spec_l08Size.x : Cx := ⟨tt, look none []⟩
def spec_l08Size.s0 (_k : Nat) (rec0 : (Int × Int) → Option (Int)) (p : (Int × Int)) : Option (Int) :=
  (bif (decide (p.2 < (32 : Int))) then rec0 ((IntKind.i64.wrap ((2 : Int) * p.1)), (IntKind.i64.wrap (p.2 + (1 : Int)))) else some p.1)
def spec_l08Size.l0 (k : Nat) : Nat → (Int × Int) → Option (Int)
  | 0 => fun _ => none
  | j + 1 => spec_l08Size.s0 k (spec_l08Size.l0 k j)
def spec_l08Size.S0 (p : (Int × Int)) : DS := ⟨tl [(3, .at (.int .i64 p.1)), (4, .at (.int .i64 p.2))], lookO []⟩
noncomputable def spec_l08Size.D0 (k : Nat) (j : Nat) (p : (Int × Int)) : Option (Int) := loopK (norm [] (spec_l08Size.h 0)) (runK spec_l08Size.x k 0 [] spec_l08Size.h 0 (sub spec_l08Size.c [1, 1, 0, 1, 0, 0])) j (spec_l08Size.S0 p) (kBlk 0 (kSeq (runK spec_l08Size.x k 0 [] spec_l08Size.h 0 (sub spec_l08Size.c [1, 1, 1])) (fin tt spec_l08Size.ps spec_l08Size.rs spec_l08Size.vs (.int .i64))))
theorem spec_l08Size.D0_eq (k : Nat) : ∀ j, spec_l08Size.D0 k j = spec_l08Size.l0 k j := by
  intro j
  induction j with
  | zero => rfl
  | succ j ih =>
    show _ = spec_l08Size.s0 k (spec_l08Size.l0 k j)
    rw [← ih]
    funext p
    kernel_rfl
def spec_l08Size.f (k : Nat) (a0 : Int) : Option (Int) :=
  spec_l08Size.l0 k k ((1 : Int), a0)
def spec_l08Size.K : Ctr := ⟨spec_l08Size.ps, spec_l08Size.rs, false, (.int .i64), (.int .i64), fun k x => spec_l08Size.f k x⟩
theorem spec_l08Size.eq (k : Nat) (x : (spec_l08Size.K.I).den) : func spec_l08Size.x spec_l08Size.h spec_l08Size.ps spec_l08Size.rs spec_l08Size.vs spec_l08Size.K.I spec_l08Size.K.O spec_l08Size.c k x = spec_l08Size.K.run k x := by
  show _ = spec_l08Size.f k x
  unfold spec_l08Size.f
  rw [← spec_l08Size.D0_eq k k]
  kernel_rfl
theorem spec_l08Size.ok : CtrOk Try.prog 102 spec_l08Size.K :=
  CtrOk.of (fn := Try.f102) (cd := spec_l08Size.c) (cx := spec_l08Size.x) (hs := spec_l08Size.h) (by kernel_rfl) (by kernel_rfl) (by kernel_rfl) (by kernel_rfl) tt_ok (envOk_nil) (by kernel_rfl) (by kernel_rfl) (by kernel_rfl) (by kernel_rfl) fun k x r h => (spec_l08Size.eq k x).trans h
/-! spec.PrefixOf -/
noncomputable def spec_PrefixOf.c : Code := bodyOf Try.f122
def spec_PrefixOf.h : Nat → Hint := look ⟨[], [], []⟩ []
def spec_PrefixOf.ps : List PK := [.one, .one]
def spec_PrefixOf.rs : List RK := [.agg 2 true, .one true]
def spec_PrefixOf.vs : List ResultVar := [.cell 4 29, .tmp 5]
def spec_PrefixOf.x : Cx := ⟨tt, look none [(101, some spec_AddrOk.K), (98, some spec_l01In.K), (102, some spec_l08Size.K)]⟩
def spec_PrefixOf.f (k : Nat) (a0 : Int) (a1 : Int) : Option (Int × Int × Bool) :=
  (spec_AddrOk.f k a0).bind fun r1 => (bif (!r1) then some ((0 : Int), (0 : Int), false) else (spec_l01In.f k a1 (0 : Int) (32 : Int)).bind fun r2 => (bif (!r2) then some ((0 : Int), (0 : Int), false) else (spec_l08Size.f k a1).bind fun r3 => (bif (r3 == 0) then none else some ((IntKind.i64.wrap (a0 - (a0.tmod r3))), a1, true))))
def spec_PrefixOf.K : Ctr := ⟨spec_PrefixOf.ps, spec_PrefixOf.rs, false, (.two (.int .i64) (.int .i64)), (.two (.int .i64) (.two (.int .i64) .bool)), fun k x => spec_PrefixOf.f k x.1 x.2⟩
theorem spec_PrefixOf.eq (k : Nat) (x : (spec_PrefixOf.K.I).den) : func spec_PrefixOf.x spec_PrefixOf.h spec_PrefixOf.ps spec_PrefixOf.rs spec_PrefixOf.vs spec_PrefixOf.K.I spec_PrefixOf.K.O spec_PrefixOf.c k x = spec_PrefixOf.K.run k x := by
  show _ = spec_PrefixOf.f k x.1 x.2
  kernel_rfl
theorem spec_PrefixOf.ok : CtrOk Try.prog 122 spec_PrefixOf.K :=
  CtrOk.of (fn := Try.f122) (cd := spec_PrefixOf.c) (cx := spec_PrefixOf.x) (hs := spec_PrefixOf.h) (by kernel_rfl) (by kernel_rfl) (by kernel_rfl) (by kernel_rfl) tt_ok (envOk_cons spec_AddrOk.ok (envOk_cons spec_l01In.ok (envOk_cons spec_l08Size.ok (envOk_nil)))) (by kernel_rfl) (by kernel_rfl) (by kernel_rfl) (by kernel_rfl) fun k x r h => (spec_PrefixOf.eq k x).trans h
/-! spec.l08Prefix -/
noncomputable def spec_l08Prefix.c : Code := bodyOf Try.f62
def spec_l08Prefix.h : Nat → Hint := look ⟨[], [], []⟩ []
def spec_l08Prefix.ps : List PK := [.box 139 3]
def spec_l08Prefix.rs : List RK := [.agg 2 true]
def spec_l08Prefix.vs : List ResultVar := [.cell 2 29]
def spec_l08Prefix.x : Cx := ⟨tt, look none [(61, some spec_l01Below.K), (123, some spec_l01PickInt.K), (122, some spec_PrefixOf.K)]⟩
def spec_l08Prefix.f (k : Nat) (a0_0 : List (Int)) (a0_1 : Int) (a0_2 : Int) : Option (Int × Int × (List (Int)) × Int × Int) :=
  (spec_l01Below.f k a0_0 a0_1 a0_2 (1024 : Int)).bind fun r1 => (spec_l01PickInt.f k r1.2.1 r1.2.2.1 r1.2.2.2 [(0 : Int), (8 : Int), (22 : Int), (24 : Int), (25 : Int), (26 : Int), (28 : Int), (29 : Int), (30 : Int), (31 : Int), (32 : Int)]).bind fun r2 => (spec_PrefixOf.f k (IntKind.i64.wrap ((167772160 : Int) + r1.1)) r2.1).bind fun r3 => some (r3.1, r3.2.1, r2.2.1, r2.2.2.1, r2.2.2.2)
def spec_l08Prefix.K : Ctr := ⟨spec_l08Prefix.ps, spec_l08Prefix.rs, true, (.two (.sl 5 (.int .u8)) (.two (.int .i64) (.int .i64))), (.two (.int .i64) (.two (.int .i64) (.two (.sl 5 (.int .u8)) (.two (.int .i64) (.int .i64))))), fun k x => spec_l08Prefix.f k x.1 x.2.1 x.2.2⟩
theorem spec_l08Prefix.eq (k : Nat) (x : (spec_l08Prefix.K.I).den) : func spec_l08Prefix.x spec_l08Prefix.h spec_l08Prefix.ps spec_l08Prefix.rs spec_l08Prefix.vs spec_l08Prefix.K.I spec_l08Prefix.K.O spec_l08Prefix.c k x = spec_l08Prefix.K.run k x := by
  show _ = spec_l08Prefix.f k x.1 x.2.1 x.2.2
  kernel_rfl
theorem spec_l08Prefix.ok : CtrOk Try.prog 62 spec_l08Prefix.K :=
  CtrOk.of (fn := Try.f62) (cd := spec_l08Prefix.c) (cx := spec_l08Prefix.x) (hs := spec_l08Prefix.h) (by kernel_rfl) (by kernel_rfl) (by kernel_rfl) (by kernel_rfl) tt_ok (envOk_cons spec_l01Below.ok (envOk_cons spec_l01PickInt.ok (envOk_cons spec_PrefixOf.ok (envOk_nil)))) (by kernel_rfl) (by kernel_rfl) (by kernel_rfl) (by kernel_rfl) fun k x r h => (spec_l08Prefix.eq k x).trans h
/-! spec.l09Ahead -/
noncomputable def spec_l09Ahead.c : Code := bodyOf Try.f67
def spec_l09Ahead.h : Nat → Hint := look ⟨[], [], []⟩ []
def spec_l09Ahead.ps : List PK := [.agg 2, .agg 2]
def spec_l09Ahead.rs : List RK := [.one true]
def spec_l09Ahead.vs : List ResultVar := [.tmp 4]
def spec_l09Ahead.x : Cx := ⟨tt, look none []⟩
def spec_l09Ahead.f (_k : Nat) (a0_0 : Int) (a0_1 : Int) (a1_0 : Int) (a1_1 : Int) : Option (Bool) :=
  (bif (decide (a0_0 < a1_0)) then some true else (bif (a0_0 == a1_0) then some (decide (a0_1 < a1_1)) else some false))
def spec_l09Ahead.K : Ctr := ⟨spec_l09Ahead.ps, spec_l09Ahead.rs, false, (.two (.int .i64) (.two (.int .i64) (.two (.int .i64) (.int .i64)))), .bool, fun k x => spec_l09Ahead.f k x.1 x.2.1 x.2.2.1 x.2.2.2⟩
theorem spec_l09Ahead.eq (k : Nat) (x : (spec_l09Ahead.K.I).den) : func spec_l09Ahead.x spec_l09Ahead.h spec_l09Ahead.ps spec_l09Ahead.rs spec_l09Ahead.vs spec_l09Ahead.K.I spec_l09Ahead.K.O spec_l09Ahead.c k x = spec_l09Ahead.K.run k x := by
  show _ = spec_l09Ahead.f k x.1 x.2.1 x.2.2.1 x.2.2.2
  kernel_rfl
theorem spec_l09Ahead.ok : CtrOk Try.prog 67 spec_l09Ahead.K :=
  CtrOk.of (fn := Try.f67) (cd := spec_l09Ahead.c) (cx := spec_l09Ahead.x) (hs := spec_l09Ahead.h) (by kernel_rfl) (by kernel_rfl) (by kernel_rfl) (by kernel_rfl) tt_ok (envOk_nil) (by kernel_rfl) (by kernel_rfl) (by kernel_rfl) (by kernel_rfl) fun k x r h => (spec_l09Ahead.eq k x).trans h
/-! spec.PrefixOk -/
noncomputable def spec_PrefixOk.c : Code := bodyOf Try.f100
def spec_PrefixOk.h : Nat → Hint := look ⟨[], [], []⟩ []
def spec_PrefixOk.ps : List PK := [.agg 2]
def spec_PrefixOk.rs : List RK := [.one true]
def spec_PrefixOk.vs : List ResultVar := [.tmp 2]
def spec_PrefixOk.x : Cx := ⟨tt, look none [(101, some spec_AddrOk.K), (98, some spec_l01In.K), (102, some spec_l08Size.K)]⟩
def spec_PrefixOk.f (k : Nat) (a0_0 : Int) (a0_1 : Int) : Option (Bool) :=
  (spec_AddrOk.f k a0_0).bind fun r1 => (bif r1 then (spec_l01In.f k a0_1 (0 : Int) (32 : Int)).bind fun r2 => (bif r2 then (spec_l08Size.f k a0_1).bind fun r3 => (bif (r3 == 0) then none else some ((a0_0.tmod r3) == (0 : Int))) else some false) else some false)
def spec_PrefixOk.K : Ctr := ⟨spec_PrefixOk.ps, spec_PrefixOk.rs, false, (.two (.int .i64) (.int .i64)), .bool, fun k x => spec_PrefixOk.f k x.1 x.2⟩
theorem spec_PrefixOk.eq (k : Nat) (x : (spec_PrefixOk.K.I).den) : func spec_PrefixOk.x spec_PrefixOk.h spec_PrefixOk.ps spec_PrefixOk.rs spec_PrefixOk.vs spec_PrefixOk.K.I spec_PrefixOk.K.O spec_PrefixOk.c k x = spec_PrefixOk.K.run k x := by
  show _ = spec_PrefixOk.f k x.1 x.2
  kernel_rfl
theorem spec_PrefixOk.ok : CtrOk Try.prog 100 spec_PrefixOk.K :=
  CtrOk.of (fn := Try.f100) (cd := spec_PrefixOk.c) (cx := spec_PrefixOk.x) (hs := spec_PrefixOk.h) (by kernel_rfl) (by kernel_rfl) (by kernel_rfl) (by kernel_rfl) tt_ok (envOk_cons spec_AddrOk.ok (envOk_cons spec_l01In.ok (envOk_cons spec_l08Size.ok (envOk_nil)))) (by kernel_rfl) (by kernel_rfl) (by kernel_rfl) (by kernel_rfl) fun k x r h => (spec_PrefixOk.eq k x).trans h
/-! spec.RoutesOk -/
noncomputable def spec_RoutesOk.c : Code := bodyOf Try.f68
def spec_RoutesOk.h : Nat → Hint := look ⟨[], [], []⟩ [(0, ⟨[0, 3], [], []⟩)]
def spec_RoutesOk.ps : List PK := [.one]
def spec_RoutesOk.rs : List RK := [.one true]
def spec_RoutesOk.vs : List ResultVar := [.tmp 2]
def spec_RoutesOk.x : Cx := ⟨tt, look none [(100, some spec_PrefixOk.K), (98, some spec_l01In.K), (67, some spec_l09Ahead.K)]⟩
def spec_RoutesOk.s0 (k : Nat) (rec0 : (Int × (List (Int × Int × Int))) → Option (Bool)) (p : (Int × (List (Int × Int × Int)))) : Option (Bool) :=
  (bif (decide (p.1 < (p.2.length : Int))) then (bif ((decide ((0 : Int) ≤ p.1)) && (decide (p.1 < (p.2.length : Int)))) then (p.2[p.1.toNat]?).bind fun x1 => (spec_PrefixOk.f k x1.1 x1.2.1).bind fun r2 => (bif (!r2) then some false else (bif ((decide ((0 : Int) ≤ p.1)) && (decide (p.1 < (p.2.length : Int)))) then (p.2[p.1.toNat]?).bind fun x3 => (spec_l01In.f k x3.2.2 (1 : Int) (99 : Int)).bind fun r4 => (bif (!r4) then some false else (bif (decide (p.1 > (0 : Int))) then (bif ((decide ((0 : Int) ≤ (IntKind.i64.wrap (p.1 - (1 : Int))))) && (decide ((IntKind.i64.wrap (p.1 - (1 : Int))) < (p.2.length : Int)))) then (p.2[(IntKind.i64.wrap (p.1 - (1 : Int))).toNat]?).bind fun x5 => (bif ((decide ((0 : Int) ≤ p.1)) && (decide (p.1 < (p.2.length : Int)))) then (p.2[p.1.toNat]?).bind fun x6 => (spec_l09Ahead.f k x5.1 x5.2.1 x6.1 x6.2.1).bind fun r7 => (bif (!r7) then some false else rec0 ((IntKind.i64.wrap (p.1 + (1 : Int))), p.2)) else none) else none) else rec0 ((IntKind.i64.wrap (p.1 + (1 : Int))), p.2))) else none)) else none) else some (decide ((p.2.length : Int) ≤ (12 : Int))))
def spec_RoutesOk.l0 (k : Nat) : Nat → (Int × (List (Int × Int × Int))) → Option (Bool)
  | 0 => fun _ => none
  | j + 1 => spec_RoutesOk.s0 k (spec_RoutesOk.l0 k j)
def spec_RoutesOk.S0 (p : (Int × (List (Int × Int × Int)))) : DS := ⟨tl [(0, .at (.whole 0)), (3, .at (.int .i64 p.1))], lookO [(0, .row 35 (.two (.int .i64) (.two (.int .i64) (.int .i64))) false p.2)]⟩
noncomputable def spec_RoutesOk.D0 (k : Nat) (j : Nat) (p : (Int × (List (Int × Int × Int)))) : Option (Bool) := loopK (norm [0] (spec_RoutesOk.h 0)) (runK spec_RoutesOk.x k 0 [0] spec_RoutesOk.h 0 (sub spec_RoutesOk.c [1, 0, 1, 0, 0])) j (spec_RoutesOk.S0 p) (kBlk 0 (kSeq (runK spec_RoutesOk.x k 0 [0] spec_RoutesOk.h 0 (sub spec_RoutesOk.c [1, 1])) (fin tt spec_RoutesOk.ps spec_RoutesOk.rs spec_RoutesOk.vs .bool)))
theorem spec_RoutesOk.D0_eq (k : Nat) : ∀ j, spec_RoutesOk.D0 k j = spec_RoutesOk.l0 k j := by
  intro j
  induction j with
  | zero => rfl
  | succ j ih =>
    show _ = spec_RoutesOk.s0 k (spec_RoutesOk.l0 k j)
    rw [← ih]
    funext p
    kernel_rfl
def spec_RoutesOk.f (k : Nat) (a0 : List (Int × Int × Int)) : Option (Bool) :=
  spec_RoutesOk.l0 k k ((0 : Int), a0)
def spec_RoutesOk.K : Ctr := ⟨spec_RoutesOk.ps, spec_RoutesOk.rs, false, (.sl 35 (.two (.int .i64) (.two (.int .i64) (.int .i64)))), .bool, fun k x => spec_RoutesOk.f k x⟩
theorem spec_RoutesOk.eq (k : Nat) (x : (spec_RoutesOk.K.I).den) : func spec_RoutesOk.x spec_RoutesOk.h spec_RoutesOk.ps spec_RoutesOk.rs spec_RoutesOk.vs spec_RoutesOk.K.I spec_RoutesOk.K.O spec_RoutesOk.c k x = spec_RoutesOk.K.run k x := by
  show _ = spec_RoutesOk.f k x
  unfold spec_RoutesOk.f
  rw [← spec_RoutesOk.D0_eq k k]
  kernel_rfl
theorem spec_RoutesOk.ok : CtrOk Try.prog 68 spec_RoutesOk.K :=
  CtrOk.of (fn := Try.f68) (cd := spec_RoutesOk.c) (cx := spec_RoutesOk.x) (hs := spec_RoutesOk.h) (by kernel_rfl) (by kernel_rfl) (by kernel_rfl) (by kernel_rfl) tt_ok (envOk_cons spec_PrefixOk.ok (envOk_cons spec_l01In.ok (envOk_cons spec_l09Ahead.ok (envOk_nil)))) (by kernel_rfl) (by kernel_rfl) (by kernel_rfl) (by kernel_rfl) fun k x r h => (spec_RoutesOk.eq k x).trans h
/-! spec.PutRoute -/
noncomputable def spec_PutRoute.c : Code := bodyOf Try.f16
def spec_PutRoute.h : Nat → Hint := look ⟨[], [], []⟩ [(0, ⟨[0, 3, 6, 7], [48], [(.t 6, 1088, 35, (.two (.int .i64) (.two (.int .i64) (.int .i64))))]⟩), (2, ⟨[0, 3, 6, 8], [48], [(.t 6, 1088, 35, (.two (.int .i64) (.two (.int .i64) (.int .i64))))]⟩)]
def spec_PutRoute.ps : List PK := [.one, .agg 3]
def spec_PutRoute.rs : List RK := [.one true, .one true]
def spec_PutRoute.vs : List ResultVar := [.tmp 4, .tmp 5]
def spec_PutRoute.x : Cx := ⟨tt, look none [(67, some spec_l09Ahead.K), (68, some spec_RoutesOk.K)]⟩
def spec_PutRoute.s2 (k : Nat) (rec2 : (Int × (List (Int × Int × Int)) × Int × Int × Int × (List (Int × Int × Int))) → Option ((List (Int × Int × Int)) × Bool)) (p : (Int × (List (Int × Int × Int)) × Int × Int × Int × (List (Int × Int × Int)))) : Option ((List (Int × Int × Int)) × Bool) :=
  (bif (decide (p.1 < (p.2.1.length : Int))) then (bif ((decide ((0 : Int) ≤ p.1)) && (decide (p.1 < (p.2.1.length : Int)))) then (p.2.1[p.1.toNat]?).bind fun x4 => (spec_l09Ahead.f k p.2.2.1 p.2.2.2.1 x4.1 x4.2.1).bind fun r5 => (bif r5 then (bif ((decide ((0 : Int) ≤ p.1)) && (decide (p.1 < (p.2.1.length : Int)))) then (p.2.1[p.1.toNat]?).bind fun x6 => (bif decide ((p.2.2.2.2.2.length + [(x6.1, x6.2.1, x6.2.2)].length) * 24 ≤ 140737488355328) then rec2 ((IntKind.i64.wrap (p.1 + (1 : Int))), p.2.1, p.2.2.1, p.2.2.2.1, p.2.2.2.2.1, (p.2.2.2.2.2 ++ [(x6.1, x6.2.1, x6.2.2)])) else none) else none) else rec2 ((IntKind.i64.wrap (p.1 + (1 : Int))), p.2.1, p.2.2.1, p.2.2.2.1, p.2.2.2.2.1, p.2.2.2.2.2)) else none) else (spec_RoutesOk.f k p.2.1).bind fun r7 => (bif (!r7) then (bif decide ((([] : List (Int × Int × Int)).length + p.2.1.length) * 24 ≤ 140737488355328) then some ((([] : List (Int × Int × Int)) ++ p.2.1), false) else none) else (spec_RoutesOk.f k p.2.2.2.2.2).bind fun r8 => (bif (!r8) then (bif decide ((([] : List (Int × Int × Int)).length + p.2.1.length) * 24 ≤ 140737488355328) then some ((([] : List (Int × Int × Int)) ++ p.2.1), false) else none) else some (p.2.2.2.2.2, true))))
def spec_PutRoute.l2 (k : Nat) : Nat → (Int × (List (Int × Int × Int)) × Int × Int × Int × (List (Int × Int × Int))) → Option ((List (Int × Int × Int)) × Bool)
  | 0 => fun _ => none
  | j + 1 => spec_PutRoute.s2 k (spec_PutRoute.l2 k j)
def spec_PutRoute.s0 (k : Nat) (rec0 : (Int × (List (Int × Int × Int)) × Int × Int × Int × (List (Int × Int × Int))) → Option ((List (Int × Int × Int)) × Bool)) (i2 : (Int × (List (Int × Int × Int)) × Int × Int × Int × (List (Int × Int × Int))) → Option ((List (Int × Int × Int)) × Bool)) (p : (Int × (List (Int × Int × Int)) × Int × Int × Int × (List (Int × Int × Int)))) : Option ((List (Int × Int × Int)) × Bool) :=
  (bif (decide (p.1 < (p.2.1.length : Int))) then (bif ((decide ((0 : Int) ≤ p.1)) && (decide (p.1 < (p.2.1.length : Int)))) then (p.2.1[p.1.toNat]?).bind fun x1 => (spec_l09Ahead.f k x1.1 x1.2.1 p.2.2.1 p.2.2.2.1).bind fun r2 => (bif r2 then (bif ((decide ((0 : Int) ≤ p.1)) && (decide (p.1 < (p.2.1.length : Int)))) then (p.2.1[p.1.toNat]?).bind fun x3 => (bif decide ((p.2.2.2.2.2.length + [(x3.1, x3.2.1, x3.2.2)].length) * 24 ≤ 140737488355328) then rec0 ((IntKind.i64.wrap (p.1 + (1 : Int))), p.2.1, p.2.2.1, p.2.2.2.1, p.2.2.2.2.1, (p.2.2.2.2.2 ++ [(x3.1, x3.2.1, x3.2.2)])) else none) else none) else rec0 ((IntKind.i64.wrap (p.1 + (1 : Int))), p.2.1, p.2.2.1, p.2.2.2.1, p.2.2.2.2.1, p.2.2.2.2.2)) else none) else (bif decide ((p.2.2.2.2.2.length + [(p.2.2.1, p.2.2.2.1, p.2.2.2.2.1)].length) * 24 ≤ 140737488355328) then i2 ((0 : Int), p.2.1, p.2.2.1, p.2.2.2.1, p.2.2.2.2.1, (p.2.2.2.2.2 ++ [(p.2.2.1, p.2.2.2.1, p.2.2.2.2.1)])) else none))
def spec_PutRoute.l0 (k : Nat) : Nat → (Int × (List (Int × Int × Int)) × Int × Int × Int × (List (Int × Int × Int))) → Option ((List (Int × Int × Int)) × Bool)
  | 0 => fun _ => none
  | j + 1 => spec_PutRoute.s0 k (spec_PutRoute.l0 k j) (spec_PutRoute.l2 k k)
def spec_PutRoute.S2 (p : (Int × (List (Int × Int × Int)) × Int × Int × Int × (List (Int × Int × Int)))) : DS := ⟨tl [(0, .at (.whole 0)), (3, .at (.bptr 48 0)), (6, .at (.whole 1088)), (8, .at (.int .i64 p.1))], lookO [(0, .row 35 (.two (.int .i64) (.two (.int .i64) (.int .i64))) false p.2.1), (48, .box 35 [.int .i64 p.2.2.1, .int .i64 p.2.2.2.1, .int .i64 p.2.2.2.2.1]), (1088, .row 35 (.two (.int .i64) (.two (.int .i64) (.int .i64))) true p.2.2.2.2.2)]⟩
def spec_PutRoute.S0 (p : (Int × (List (Int × Int × Int)) × Int × Int × Int × (List (Int × Int × Int)))) : DS := ⟨tl [(0, .at (.whole 0)), (3, .at (.bptr 48 0)), (6, .at (.whole 1088)), (7, .at (.int .i64 p.1))], lookO [(0, .row 35 (.two (.int .i64) (.two (.int .i64) (.int .i64))) false p.2.1), (48, .box 35 [.int .i64 p.2.2.1, .int .i64 p.2.2.2.1, .int .i64 p.2.2.2.2.1]), (1088, .row 35 (.two (.int .i64) (.two (.int .i64) (.int .i64))) true p.2.2.2.2.2)]⟩
noncomputable def spec_PutRoute.D2 (k : Nat) (j : Nat) (p : (Int × (List (Int × Int × Int)) × Int × Int × Int × (List (Int × Int × Int)))) : Option ((List (Int × Int × Int)) × Bool) := loopK (norm [0] (spec_PutRoute.h 2)) (runK spec_PutRoute.x k 0 [0] spec_PutRoute.h 2 (sub spec_PutRoute.c [1, 1, 1, 1, 0, 1, 0, 0])) j (spec_PutRoute.S2 p) (kBlk 2 (kSeq (runK spec_PutRoute.x k 0 [0] spec_PutRoute.h 0 (sub spec_PutRoute.c [1, 1, 1, 1, 1])) (fin tt spec_PutRoute.ps spec_PutRoute.rs spec_PutRoute.vs (.two (.sl 35 (.two (.int .i64) (.two (.int .i64) (.int .i64)))) .bool))))
noncomputable def spec_PutRoute.D0 (k : Nat) (j : Nat) (p : (Int × (List (Int × Int × Int)) × Int × Int × Int × (List (Int × Int × Int)))) : Option ((List (Int × Int × Int)) × Bool) := loopK (norm [0] (spec_PutRoute.h 0)) (runK spec_PutRoute.x k 0 [0] spec_PutRoute.h 0 (sub spec_PutRoute.c [1, 1, 0, 1, 0, 0])) j (spec_PutRoute.S0 p) (kBlk 0 (kSeq (runK spec_PutRoute.x k 0 [0] spec_PutRoute.h 0 (sub spec_PutRoute.c [1, 1, 1])) (fin tt spec_PutRoute.ps spec_PutRoute.rs spec_PutRoute.vs (.two (.sl 35 (.two (.int .i64) (.two (.int .i64) (.int .i64)))) .bool))))
theorem spec_PutRoute.D2_eq (k : Nat) : ∀ j, spec_PutRoute.D2 k j = spec_PutRoute.l2 k j := by
  intro j
  induction j with
  | zero => rfl
  | succ j ih =>
    show _ = spec_PutRoute.s2 k (spec_PutRoute.l2 k j)
    rw [← ih]
    funext p
    kernel_rfl
theorem spec_PutRoute.D0_eq (k : Nat) : ∀ j, spec_PutRoute.D0 k j = spec_PutRoute.l0 k j := by
  intro j
  induction j with
  | zero => rfl
  | succ j ih =>
    show _ = spec_PutRoute.s0 k (spec_PutRoute.l0 k j) (spec_PutRoute.l2 k k)
    rw [← ih, ← spec_PutRoute.D2_eq k k]
    funext p
    kernel_rfl
def spec_PutRoute.f (k : Nat) (a0 : List (Int × Int × Int)) (a1_0 : Int) (a1_1 : Int) (a1_2 : Int) : Option ((List (Int × Int × Int)) × Bool) :=
  spec_PutRoute.l0 k k ((0 : Int), a0, a1_0, a1_1, a1_2, ([] : List (Int × Int × Int)))
def spec_PutRoute.K : Ctr := ⟨spec_PutRoute.ps, spec_PutRoute.rs, false, (.two (.sl 35 (.two (.int .i64) (.two (.int .i64) (.int .i64)))) (.two (.int .i64) (.two (.int .i64) (.int .i64)))), (.two (.sl 35 (.two (.int .i64) (.two (.int .i64) (.int .i64)))) .bool), fun k x => spec_PutRoute.f k x.1 x.2.1 x.2.2.1 x.2.2.2⟩
theorem spec_PutRoute.eq (k : Nat) (x : (spec_PutRoute.K.I).den) : func spec_PutRoute.x spec_PutRoute.h spec_PutRoute.ps spec_PutRoute.rs spec_PutRoute.vs spec_PutRoute.K.I spec_PutRoute.K.O spec_PutRoute.c k x = spec_PutRoute.K.run k x := by
  show _ = spec_PutRoute.f k x.1 x.2.1 x.2.2.1 x.2.2.2
  unfold spec_PutRoute.f
  rw [← spec_PutRoute.D0_eq k k]
  kernel_rfl
theorem spec_PutRoute.ok : CtrOk Try.prog 16 spec_PutRoute.K :=
  CtrOk.of (fn := Try.f16) (cd := spec_PutRoute.c) (cx := spec_PutRoute.x) (hs := spec_PutRoute.h) (by kernel_rfl) (by kernel_rfl) (by kernel_rfl) (by kernel_rfl) tt_ok (envOk_cons spec_l09Ahead.ok (envOk_cons spec_RoutesOk.ok (envOk_nil))) (by kernel_rfl) (by kernel_rfl) (by kernel_rfl) (by kernel_rfl) fun k x r h => (spec_PutRoute.eq k x).trans h
/-! spec.l09Routes -/
noncomputable def spec_l09Routes.c : Code := bodyOf Try.f60
def spec_l09Routes.h : Nat → Hint := look ⟨[], [], []⟩ [(0, ⟨[0, 3, 4], [], [(.b 0 0, 448, 5, (.int .u8)), (.t 3, 449, 35, (.two (.int .i64) (.two (.int .i64) (.int .i64))))]⟩)]
def spec_l09Routes.ps : List PK := [.box 139 3]
def spec_l09Routes.rs : List RK := [.one true]
def spec_l09Routes.vs : List ResultVar := [.tmp 2]
def spec_l09Routes.x : Cx := ⟨tt, look none [(61, some spec_l01Below.K), (62, some spec_l08Prefix.K), (16, some spec_PutRoute.K)]⟩
def spec_l09Routes.s0 (k : Nat) (rec0 : (Int × Int × Int × (List (Int)) × (List (Int)) × (List (Int × Int × Int))) → Option ((List (Int × Int × Int)) × (List (Int)) × Int × Int)) (p : (Int × Int × Int × (List (Int)) × (List (Int)) × (List (Int × Int × Int)))) : Option ((List (Int × Int × Int)) × (List (Int)) × Int × Int) :=
  (spec_l01Below.f k p.2.2.2.2.1 p.2.1 p.2.2.1 (9 : Int)).bind fun r1 => (bif (decide (p.1 < r1.1)) then (spec_l08Prefix.f k r1.2.1 r1.2.2.1 r1.2.2.2).bind fun r2 => (spec_l01Below.f k r2.2.2.1 r2.2.2.2.1 r2.2.2.2.2 (4 : Int)).bind fun r3 => (spec_PutRoute.f k p.2.2.2.2.2 r2.1 r2.2.1 (IntKind.i64.wrap ((1 : Int) + r3.1))).bind fun r4 => (bif r4.2 then rec0 ((IntKind.i64.wrap (p.1 + (1 : Int))), r3.2.2.1, r3.2.2.2, p.2.2.2.1, r3.2.1, r4.1) else rec0 ((IntKind.i64.wrap (p.1 + (1 : Int))), r3.2.2.1, r3.2.2.2, p.2.2.2.1, r3.2.1, p.2.2.2.2.2)) else some (p.2.2.2.2.2, r1.2.1, r1.2.2.1, r1.2.2.2))
def spec_l09Routes.l0 (k : Nat) : Nat → (Int × Int × Int × (List (Int)) × (List (Int)) × (List (Int × Int × Int))) → Option ((List (Int × Int × Int)) × (List (Int)) × Int × Int)
  | 0 => fun _ => none
  | j + 1 => spec_l09Routes.s0 k (spec_l09Routes.l0 k j)
def spec_l09Routes.S0 (p : (Int × Int × Int × (List (Int)) × (List (Int)) × (List (Int × Int × Int)))) : DS := ⟨tl [(0, .at (.bptr 0 0)), (3, .at (.whole 449)), (4, .at (.int .i64 p.1))], lookO [(0, .box 139 [.whole 448, .int .i64 p.2.1, .int .i64 p.2.2.1]), (1, .row 5 (.int .u8) false p.2.2.2.1), (448, .row 5 (.int .u8) false p.2.2.2.2.1), (449, .row 35 (.two (.int .i64) (.two (.int .i64) (.int .i64))) true p.2.2.2.2.2)]⟩
noncomputable def spec_l09Routes.D0 (k : Nat) (j : Nat) (p : (Int × Int × Int × (List (Int)) × (List (Int)) × (List (Int × Int × Int)))) : Option ((List (Int × Int × Int)) × (List (Int)) × Int × Int) := loopK (norm [0, 1] (spec_l09Routes.h 0)) (runK spec_l09Routes.x k 0 [0, 1] spec_l09Routes.h 0 (sub spec_l09Routes.c [1, 1, 0, 1, 0, 0])) j (spec_l09Routes.S0 p) (kBlk 0 (kSeq (runK spec_l09Routes.x k 0 [0, 1] spec_l09Routes.h 0 (sub spec_l09Routes.c [1, 1, 1])) (fin tt spec_l09Routes.ps spec_l09Routes.rs spec_l09Routes.vs (.two (.sl 35 (.two (.int .i64) (.two (.int .i64) (.int .i64)))) (.two (.sl 5 (.int .u8)) (.two (.int .i64) (.int .i64)))))))
theorem spec_l09Routes.D0_eq (k : Nat) : ∀ j, spec_l09Routes.D0 k j = spec_l09Routes.l0 k j := by
  intro j
  induction j with
  | zero => rfl
  | succ j ih =>
    show _ = spec_l09Routes.s0 k (spec_l09Routes.l0 k j)
    rw [← ih]
    funext p
    kernel_rfl
def spec_l09Routes.f (k : Nat) (a0_0 : List (Int)) (a0_1 : Int) (a0_2 : Int) : Option ((List (Int × Int × Int)) × (List (Int)) × Int × Int) :=
  spec_l09Routes.l0 k k ((0 : Int), a0_1, a0_2, a0_0, a0_0, ([] : List (Int × Int × Int)))
def spec_l09Routes.K : Ctr := ⟨spec_l09Routes.ps, spec_l09Routes.rs, true, (.two (.sl 5 (.int .u8)) (.two (.int .i64) (.int .i64))), (.two (.sl 35 (.two (.int .i64) (.two (.int .i64) (.int .i64)))) (.two (.sl 5 (.int .u8)) (.two (.int .i64) (.int .i64)))), fun k x => spec_l09Routes.f k x.1 x.2.1 x.2.2⟩
theorem spec_l09Routes.eq (k : Nat) (x : (spec_l09Routes.K.I).den) : func spec_l09Routes.x spec_l09Routes.h spec_l09Routes.ps spec_l09Routes.rs spec_l09Routes.vs spec_l09Routes.K.I spec_l09Routes.K.O spec_l09Routes.c k x = spec_l09Routes.K.run k x := by
  show _ = spec_l09Routes.f k x.1 x.2.1 x.2.2
  unfold spec_l09Routes.f
  rw [← spec_l09Routes.D0_eq k k]
  kernel_rfl
theorem spec_l09Routes.ok : CtrOk Try.prog 60 spec_l09Routes.K :=
  CtrOk.of (fn := Try.f60) (cd := spec_l09Routes.c) (cx := spec_l09Routes.x) (hs := spec_l09Routes.h) (by kernel_rfl) (by kernel_rfl) (by kernel_rfl) (by kernel_rfl) tt_ok (envOk_cons spec_l01Below.ok (envOk_cons spec_l08Prefix.ok (envOk_cons spec_PutRoute.ok (envOk_nil)))) (by kernel_rfl) (by kernel_rfl) (by kernel_rfl) (by kernel_rfl) fun k x r h => (spec_l09Routes.eq k x).trans h
end Go.Proofs.Ytfaeklomiofpdaa.DI
