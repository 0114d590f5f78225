/- FnAddrs: functions as plain Lean, in the machine of values. -/
import Derived.Test.YtpheniajdbbphaaDoorVFnAddrs0
namespace Go.Proofs.YtpheniajdbbphaaDoor.DI
open Go
set_option linter.unusedVariables false
/-! laws.big -/
noncomputable def laws_big.c : Code := bodyOf Tryd.f6
def laws_big.h : Nat → Hint := look ⟨[], [], []⟩ []
def laws_big.ps : List PK := [.one]
def laws_big.rs : List RK := [.one true]
def laws_big.vs : List ResultVar := [.tmp 2]
def laws_big.x : Cx := ⟨tt, look none []⟩
def laws_big.f (_k : Nat) (a0 : List (Int)) : Option (Bool) :=
  some (decide ((a0.length : Int) > (1048576 : Int)))
def laws_big.K : Ctr := ⟨laws_big.ps, laws_big.rs, false, (.sl 5 (.int .u8)), .bool, fun k x => laws_big.f k x⟩
theorem laws_big.eq (k : Nat) (x : (laws_big.K.I).den) : func laws_big.x laws_big.h laws_big.ps laws_big.rs laws_big.vs laws_big.K.I laws_big.K.O laws_big.c k x = laws_big.K.run k x := by
  show _ = laws_big.f k x
  kernel_rfl
theorem laws_big.ok : CtrOk Tryd.prog 6 laws_big.K :=
  CtrOk.of (fn := Tryd.f6) (cd := laws_big.c) (cx := laws_big.x) (hs := laws_big.h) (by kernel_rfl) (by kernel_rfl) (by kernel_rfl) (by kernel_rfl) tt_ok (envOk_nil) (by kernel_rfl) (by kernel_rfl) (by kernel_rfl) (by kernel_rfl) fun k x r h => (laws_big.eq k x).trans h
/-! spec.l01New -/
noncomputable def spec_l01New.c : Code := bodyOf Tryd.f23
def spec_l01New.h : Nat → Hint := look ⟨[], [], []⟩ [(0, ⟨[0, 3, 4], [], []⟩)]
def spec_l01New.ps : List PK := [.one]
def spec_l01New.rs : List RK := [.ptr 59 3 false]
def spec_l01New.vs : List ResultVar := [.tmp 2]
def spec_l01New.x : Cx := ⟨tt, look none []⟩
def spec_l01New.s0 (_k : Nat) (rec0 : (Int × Int × (List (Int))) → Option ((List (Int)) × Int × Int)) (p : (Int × Int × (List (Int)))) : Option ((List (Int)) × Int × Int) :=
  (bif (decide (p.2.1 < (p.2.2.length : Int))) then (bif (decide (p.2.1 < (4000 : Int))) then (bif ((decide ((0 : Int) ≤ p.2.1)) && (decide (p.2.1 < (p.2.2.length : Int)))) then (p.2.2[p.2.1.toNat]?).bind fun x1 => rec0 ((IntKind.i64.wrap (((BitVec.ofInt IntKind.i64.bits (IntKind.i64.wrap ((IntKind.i64.wrap ((IntKind.i64.wrap (p.1 * (131 : Int))) + (IntKind.i64.wrap x1))) + (7 : Int)))) &&& (BitVec.ofInt IntKind.i64.bits (1073741823 : Int))).toNat : Int)), (IntKind.i64.wrap (p.2.1 + (1 : Int))), p.2.2) else none) else some (p.2.2, (0 : Int), p.1)) else some (p.2.2, (0 : Int), p.1))
def spec_l01New.l0 (k : Nat) : Nat → (Int × Int × (List (Int))) → Option ((List (Int)) × Int × Int)
  | 0 => fun _ => none
  | j + 1 => spec_l01New.s0 k (spec_l01New.l0 k j)
def spec_l01New.S0 (p : (Int × Int × (List (Int)))) : DS := ⟨tl [(0, .at (.whole 0)), (3, .at (.int .i64 p.1)), (4, .at (.int .i64 p.2.1))], lookO [(0, .row 5 (.int .u8) false p.2.2)]⟩
noncomputable def spec_l01New.D0 (k : Nat) (j : Nat) (p : (Int × Int × (List (Int)))) : Option ((List (Int)) × Int × Int) := loopK (norm [0] (spec_l01New.h 0)) (runK spec_l01New.x k 0 [0] spec_l01New.h 0 (sub spec_l01New.c [1, 1, 0, 1, 0, 0])) j (spec_l01New.S0 p) (kBlk 0 (kSeq (runK spec_l01New.x k 0 [0] spec_l01New.h 0 (sub spec_l01New.c [1, 1, 1])) (fin tt spec_l01New.ps spec_l01New.rs spec_l01New.vs (.two (.sl 5 (.int .u8)) (.two (.int .i64) (.int .i64))))))
theorem spec_l01New.D0_eq (k : Nat) : ∀ j, spec_l01New.D0 k j = spec_l01New.l0 k j := by
  intro j
  induction j with
  | zero => rfl
  | succ j ih =>
    show _ = spec_l01New.s0 k (spec_l01New.l0 k j)
    rw [← ih]
    funext p
    kernel_rfl
def spec_l01New.f (k : Nat) (a0 : List (Int)) : Option ((List (Int)) × Int × Int) :=
  spec_l01New.l0 k k ((IntKind.i64.wrap ((36201 : Int) + (a0.length : Int))), (0 : Int), a0)
def spec_l01New.K : Ctr := ⟨spec_l01New.ps, spec_l01New.rs, true, (.sl 5 (.int .u8)), (.two (.sl 5 (.int .u8)) (.two (.int .i64) (.int .i64))), fun k x => spec_l01New.f k x⟩
theorem spec_l01New.eq (k : Nat) (x : (spec_l01New.K.I).den) : func spec_l01New.x spec_l01New.h spec_l01New.ps spec_l01New.rs spec_l01New.vs spec_l01New.K.I spec_l01New.K.O spec_l01New.c k x = spec_l01New.K.run k x := by
  show _ = spec_l01New.f k x
  unfold spec_l01New.f
  rw [← spec_l01New.D0_eq k k]
  kernel_rfl
theorem spec_l01New.ok : CtrOk Tryd.prog 23 spec_l01New.K :=
  CtrOk.of (fn := Tryd.f23) (cd := spec_l01New.c) (cx := spec_l01New.x) (hs := spec_l01New.h) (by kernel_rfl) (by kernel_rfl) (by kernel_rfl) (by kernel_rfl) tt_ok (envOk_nil) (by kernel_rfl) (by kernel_rfl) (by kernel_rfl) (by kernel_rfl) fun k x r h => (spec_l01New.eq k x).trans h
/-! spec.l01Byte -/
noncomputable def spec_l01Byte.c : Code := bodyOf Tryd.f43
def spec_l01Byte.h : Nat → Hint := look ⟨[], [], []⟩ []
def spec_l01Byte.ps : List PK := [.box 59 3]
def spec_l01Byte.rs : List RK := [.one true]
def spec_l01Byte.vs : List ResultVar := [.tmp 2]
def spec_l01Byte.x : Cx := ⟨tt, look none []⟩
def spec_l01Byte.f (_k : Nat) (a0_0 : List (Int)) (a0_1 : Int) (a0_2 : Int) : Option (Int × (List (Int)) × Int × Int) :=
  (bif (decide (a0_1 < (a0_0.length : Int))) then (bif ((decide ((0 : Int) ≤ a0_1)) && (decide (a0_1 < (a0_0.length : Int)))) then (a0_0[a0_1.toNat]?).bind fun x1 => some ((IntKind.i64.wrap (((BitVec.ofInt IntKind.i64.bits (IntKind.i64.wrap ((IntKind.i64.wrap (((BitVec.ofInt IntKind.i64.bits (IntKind.i64.wrap (((BitVec.ofInt IntKind.i64.bits ((IntKind.i64.wrap ((IntKind.i64.wrap (a0_2 * (6364136223846793005 : Int))) + (1442695040888963407 : Int))).fdiv (2 ^ 33))) ^^^ (BitVec.ofInt IntKind.i64.bits ((IntKind.i64.wrap ((IntKind.i64.wrap (a0_2 * (6364136223846793005 : Int))) + (1442695040888963407 : Int))).fdiv (2 ^ 45)))).toNat : Int))) &&& (BitVec.ofInt IntKind.i64.bits (255 : Int))).toNat : Int)) + (IntKind.i64.wrap x1)))) &&& (BitVec.ofInt IntKind.i64.bits (255 : Int))).toNat : Int)), a0_0, (IntKind.i64.wrap (a0_1 + (1 : Int))), (IntKind.i64.wrap ((IntKind.i64.wrap (a0_2 * (6364136223846793005 : Int))) + (1442695040888963407 : Int)))) else none) else some ((IntKind.i64.wrap (((BitVec.ofInt IntKind.i64.bits (IntKind.i64.wrap (((BitVec.ofInt IntKind.i64.bits ((IntKind.i64.wrap ((IntKind.i64.wrap (a0_2 * (6364136223846793005 : Int))) + (1442695040888963407 : Int))).fdiv (2 ^ 33))) ^^^ (BitVec.ofInt IntKind.i64.bits ((IntKind.i64.wrap ((IntKind.i64.wrap (a0_2 * (6364136223846793005 : Int))) + (1442695040888963407 : Int))).fdiv (2 ^ 45)))).toNat : Int))) &&& (BitVec.ofInt IntKind.i64.bits (255 : Int))).toNat : Int)), a0_0, a0_1, (IntKind.i64.wrap ((IntKind.i64.wrap (a0_2 * (6364136223846793005 : Int))) + (1442695040888963407 : Int)))))
def spec_l01Byte.K : Ctr := ⟨spec_l01Byte.ps, spec_l01Byte.rs, true, (.two (.sl 5 (.int .u8)) (.two (.int .i64) (.int .i64))), (.two (.int .i64) (.two (.sl 5 (.int .u8)) (.two (.int .i64) (.int .i64)))), fun k x => spec_l01Byte.f k x.1 x.2.1 x.2.2⟩
theorem spec_l01Byte.eq (k : Nat) (x : (spec_l01Byte.K.I).den) : func spec_l01Byte.x spec_l01Byte.h spec_l01Byte.ps spec_l01Byte.rs spec_l01Byte.vs spec_l01Byte.K.I spec_l01Byte.K.O spec_l01Byte.c k x = spec_l01Byte.K.run k x := by
  show _ = spec_l01Byte.f k x.1 x.2.1 x.2.2
  kernel_rfl
theorem spec_l01Byte.ok : CtrOk Tryd.prog 43 spec_l01Byte.K :=
  CtrOk.of (fn := Tryd.f43) (cd := spec_l01Byte.c) (cx := spec_l01Byte.x) (hs := spec_l01Byte.h) (by kernel_rfl) (by kernel_rfl) (by kernel_rfl) (by kernel_rfl) tt_ok (envOk_nil) (by kernel_rfl) (by kernel_rfl) (by kernel_rfl) (by kernel_rfl) fun k x r h => (spec_l01Byte.eq k x).trans h
/-! spec.l01Below -/
noncomputable def spec_l01Below.c : Code := bodyOf Tryd.f24
def spec_l01Below.h : Nat → Hint := look ⟨[], [], []⟩ []
def spec_l01Below.ps : List PK := [.box 59 3, .one]
def spec_l01Below.rs : List RK := [.one true]
def spec_l01Below.vs : List ResultVar := [.tmp 4]
def spec_l01Below.x : Cx := ⟨tt, look none [(43, some spec_l01Byte.K)]⟩
def spec_l01Below.f (k : Nat) (a0_0 : List (Int)) (a0_1 : Int) (a0_2 : Int) (a1 : Int) : Option (Int × (List (Int)) × Int × Int) :=
  (bif (decide (a1 ≤ (0 : Int))) then some ((0 : Int), a0_0, a0_1, a0_2) else (bif (decide (a1 ≤ (256 : Int))) then (spec_l01Byte.f k a0_0 a0_1 a0_2).bind fun r1 => (bif (a1 == 0) then none else some ((r1.1.tmod a1), r1.2.1, r1.2.2.1, r1.2.2.2)) else (spec_l01Byte.f k a0_0 a0_1 a0_2).bind fun r2 => (spec_l01Byte.f k r2.2.1 r2.2.2.1 r2.2.2.2).bind fun r3 => (spec_l01Byte.f k r3.2.1 r3.2.2.1 r3.2.2.2).bind fun r4 => (spec_l01Byte.f k r4.2.1 r4.2.2.1 r4.2.2.2).bind fun r5 => (bif (a1 == 0) then none else some (((IntKind.i64.wrap ((IntKind.i64.wrap ((IntKind.i64.wrap ((IntKind.i64.wrap (r2.1 * (16777216 : Int))) + (IntKind.i64.wrap (r3.1 * (65536 : Int))))) + (IntKind.i64.wrap (r4.1 * (256 : Int))))) + r5.1)).tmod a1), r5.2.1, r5.2.2.1, r5.2.2.2))))
def spec_l01Below.K : Ctr := ⟨spec_l01Below.ps, spec_l01Below.rs, true, (.two (.sl 5 (.int .u8)) (.two (.int .i64) (.two (.int .i64) (.int .i64)))), (.two (.int .i64) (.two (.sl 5 (.int .u8)) (.two (.int .i64) (.int .i64)))), fun k x => spec_l01Below.f k x.1 x.2.1 x.2.2.1 x.2.2.2⟩
theorem spec_l01Below.eq (k : Nat) (x : (spec_l01Below.K.I).den) : func spec_l01Below.x spec_l01Below.h spec_l01Below.ps spec_l01Below.rs spec_l01Below.vs spec_l01Below.K.I spec_l01Below.K.O spec_l01Below.c k x = spec_l01Below.K.run k x := by
  show _ = spec_l01Below.f k x.1 x.2.1 x.2.2.1 x.2.2.2
  kernel_rfl
theorem spec_l01Below.ok : CtrOk Tryd.prog 24 spec_l01Below.K :=
  CtrOk.of (fn := Tryd.f24) (cd := spec_l01Below.c) (cx := spec_l01Below.x) (hs := spec_l01Below.h) (by kernel_rfl) (by kernel_rfl) (by kernel_rfl) (by kernel_rfl) tt_ok (envOk_cons spec_l01Byte.ok (envOk_nil)) (by kernel_rfl) (by kernel_rfl) (by kernel_rfl) (by kernel_rfl) fun k x r h => (spec_l01Below.eq k x).trans h
/-! spec.l01PickInt -/
noncomputable def spec_l01PickInt.c : Code := bodyOf Tryd.f45
def spec_l01PickInt.h : Nat → Hint := look ⟨[], [], []⟩ []
def spec_l01PickInt.ps : List PK := [.box 59 3, .one]
def spec_l01PickInt.rs : List RK := [.one true]
def spec_l01PickInt.vs : List ResultVar := [.tmp 4]
def spec_l01PickInt.x : Cx := ⟨tt, look none [(24, some spec_l01Below.K)]⟩
def spec_l01PickInt.f (k : Nat) (a0_0 : List (Int)) (a0_1 : Int) (a0_2 : Int) (a1 : List (Int)) : Option (Int × (List (Int)) × Int × Int) :=
  (spec_l01Below.f k a0_0 a0_1 a0_2 (a1.length : Int)).bind fun r1 => (bif ((decide ((0 : Int) ≤ r1.1)) && (decide (r1.1 < (a1.length : Int)))) then (a1[r1.1.toNat]?).bind fun x2 => some (x2, r1.2.1, r1.2.2.1, r1.2.2.2) else none)
def spec_l01PickInt.K : Ctr := ⟨spec_l01PickInt.ps, spec_l01PickInt.rs, true, (.two (.sl 5 (.int .u8)) (.two (.int .i64) (.two (.int .i64) (.sl 3 (.int .i64))))), (.two (.int .i64) (.two (.sl 5 (.int .u8)) (.two (.int .i64) (.int .i64)))), fun k x => spec_l01PickInt.f k x.1 x.2.1 x.2.2.1 x.2.2.2⟩
theorem spec_l01PickInt.eq (k : Nat) (x : (spec_l01PickInt.K.I).den) : func spec_l01PickInt.x spec_l01PickInt.h spec_l01PickInt.ps spec_l01PickInt.rs spec_l01PickInt.vs spec_l01PickInt.K.I spec_l01PickInt.K.O spec_l01PickInt.c k x = spec_l01PickInt.K.run k x := by
  show _ = spec_l01PickInt.f k x.1 x.2.1 x.2.2.1 x.2.2.2
  kernel_rfl
theorem spec_l01PickInt.ok : CtrOk Tryd.prog 45 spec_l01PickInt.K :=
  CtrOk.of (fn := Tryd.f45) (cd := spec_l01PickInt.c) (cx := spec_l01PickInt.x) (hs := spec_l01PickInt.h) (by kernel_rfl) (by kernel_rfl) (by kernel_rfl) (by kernel_rfl) tt_ok (envOk_cons spec_l01Below.ok (envOk_nil)) (by kernel_rfl) (by kernel_rfl) (by kernel_rfl) (by kernel_rfl) fun k x r h => (spec_l01PickInt.eq k x).trans h
/-! spec.l01In -/
noncomputable def spec_l01In.c : Code := bodyOf Tryd.f42
def spec_l01In.h : Nat → Hint := look ⟨[], [], []⟩ []
def spec_l01In.ps : List PK := [.one, .one, .one]
def spec_l01In.rs : List RK := [.one true]
def spec_l01In.vs : List ResultVar := [.tmp 6]
def spec_l01In.x : Cx := ⟨tt, look none []⟩
def spec_l01In.f (_k : Nat) (a0 : Int) (a1 : Int) (a2 : Int) : Option (Bool) :=
  (bif (decide (a0 ≥ a1)) then some (decide (a0 ≤ a2)) else some false)
def spec_l01In.K : Ctr := ⟨spec_l01In.ps, spec_l01In.rs, false, (.two (.int .i64) (.two (.int .i64) (.int .i64))), .bool, fun k x => spec_l01In.f k x.1 x.2.1 x.2.2⟩
theorem spec_l01In.eq (k : Nat) (x : (spec_l01In.K.I).den) : func spec_l01In.x spec_l01In.h spec_l01In.ps spec_l01In.rs spec_l01In.vs spec_l01In.K.I spec_l01In.K.O spec_l01In.c k x = spec_l01In.K.run k x := by
  show _ = spec_l01In.f k x.1 x.2.1 x.2.2
  kernel_rfl
theorem spec_l01In.ok : CtrOk Tryd.prog 42 spec_l01In.K :=
  CtrOk.of (fn := Tryd.f42) (cd := spec_l01In.c) (cx := spec_l01In.x) (hs := spec_l01In.h) (by kernel_rfl) (by kernel_rfl) (by kernel_rfl) (by kernel_rfl) tt_ok (envOk_nil) (by kernel_rfl) (by kernel_rfl) (by kernel_rfl) (by kernel_rfl) fun k x r h => (spec_l01In.eq k x).trans h
/-! spec.AddrOk -/
noncomputable def spec_AddrOk.c : Code := bodyOf Tryd.f32
def spec_AddrOk.h : Nat → Hint := look ⟨[], [], []⟩ []
def spec_AddrOk.ps : List PK := [.one]
def spec_AddrOk.rs : List RK := [.one true]
def spec_AddrOk.vs : List ResultVar := [.tmp 2]
def spec_AddrOk.x : Cx := ⟨tt, look none [(42, some spec_l01In.K)]⟩
def spec_AddrOk.f (k : Nat) (a0 : Int) : Option (Bool) :=
  (spec_l01In.f k a0 (0 : Int) (4294967295 : Int)).bind fun r1 => some r1
def spec_AddrOk.K : Ctr := ⟨spec_AddrOk.ps, spec_AddrOk.rs, false, (.int .i64), .bool, fun k x => spec_AddrOk.f k x⟩
theorem spec_AddrOk.eq (k : Nat) (x : (spec_AddrOk.K.I).den) : func spec_AddrOk.x spec_AddrOk.h spec_AddrOk.ps spec_AddrOk.rs spec_AddrOk.vs spec_AddrOk.K.I spec_AddrOk.K.O spec_AddrOk.c k x = spec_AddrOk.K.run k x := by
  show _ = spec_AddrOk.f k x
  kernel_rfl
theorem spec_AddrOk.ok : CtrOk Tryd.prog 32 spec_AddrOk.K :=
  CtrOk.of (fn := Tryd.f32) (cd := spec_AddrOk.c) (cx := spec_AddrOk.x) (hs := spec_AddrOk.h) (by kernel_rfl) (by kernel_rfl) (by kernel_rfl) (by kernel_rfl) tt_ok (envOk_cons spec_l01In.ok (envOk_nil)) (by kernel_rfl) (by kernel_rfl) (by kernel_rfl) (by kernel_rfl) fun k x r h => (spec_AddrOk.eq k x).trans h
/-! spec.l08Size -/
noncomputable def spec_l08Size.c : Code := bodyOf Tryd.f33
def spec_l08Size.h : Nat → Hint := look ⟨[], [], []⟩ [(0, ⟨[3, 4], [], []⟩)]
def spec_l08Size.ps : List PK := [.one]
def spec_l08Size.rs : List RK := [.one true]
def spec_l08Size.vs : List ResultVar := [.tmp 2]
def spec_l08Size.x : Cx := ⟨tt, look none []⟩
def spec_l08Size.s0 (_k : Nat) (rec0 : (Int × Int) → Option (Int)) (p : (Int × Int)) : Option (Int) :=
  (bif (decide (p.2 < (32 : Int))) then rec0 ((IntKind.i64.wrap ((2 : Int) * p.1)), (IntKind.i64.wrap (p.2 + (1 : Int)))) else some p.1)
def spec_l08Size.l0 (k : Nat) : Nat → (Int × Int) → Option (Int)
  | 0 => fun _ => none
  | j + 1 => spec_l08Size.s0 k (spec_l08Size.l0 k j)
def spec_l08Size.S0 (p : (Int × Int)) : DS := ⟨tl [(3, .at (.int .i64 p.1)), (4, .at (.int .i64 p.2))], lookO []⟩
noncomputable def spec_l08Size.D0 (k : Nat) (j : Nat) (p : (Int × Int)) : Option (Int) := loopK (norm [] (spec_l08Size.h 0)) (runK spec_l08Size.x k 0 [] spec_l08Size.h 0 (sub spec_l08Size.c [1, 1, 0, 1, 0, 0])) j (spec_l08Size.S0 p) (kBlk 0 (kSeq (runK spec_l08Size.x k 0 [] spec_l08Size.h 0 (sub spec_l08Size.c [1, 1, 1])) (fin tt spec_l08Size.ps spec_l08Size.rs spec_l08Size.vs (.int .i64))))
theorem spec_l08Size.D0_eq (k : Nat) : ∀ j, spec_l08Size.D0 k j = spec_l08Size.l0 k j := by
  intro j
  induction j with
  | zero => rfl
  | succ j ih =>
    show _ = spec_l08Size.s0 k (spec_l08Size.l0 k j)
    rw [← ih]
    funext p
    kernel_rfl
def spec_l08Size.f (k : Nat) (a0 : Int) : Option (Int) :=
  spec_l08Size.l0 k k ((1 : Int), a0)
def spec_l08Size.K : Ctr := ⟨spec_l08Size.ps, spec_l08Size.rs, false, (.int .i64), (.int .i64), fun k x => spec_l08Size.f k x⟩
theorem spec_l08Size.eq (k : Nat) (x : (spec_l08Size.K.I).den) : func spec_l08Size.x spec_l08Size.h spec_l08Size.ps spec_l08Size.rs spec_l08Size.vs spec_l08Size.K.I spec_l08Size.K.O spec_l08Size.c k x = spec_l08Size.K.run k x := by
  show _ = spec_l08Size.f k x
  unfold spec_l08Size.f
  rw [← spec_l08Size.D0_eq k k]
  kernel_rfl
theorem spec_l08Size.ok : CtrOk Tryd.prog 33 spec_l08Size.K :=
  CtrOk.of (fn := Tryd.f33) (cd := spec_l08Size.c) (cx := spec_l08Size.x) (hs := spec_l08Size.h) (by kernel_rfl) (by kernel_rfl) (by kernel_rfl) (by kernel_rfl) tt_ok (envOk_nil) (by kernel_rfl) (by kernel_rfl) (by kernel_rfl) (by kernel_rfl) fun k x r h => (spec_l08Size.eq k x).trans h
/-! spec.PrefixOf -/
noncomputable def spec_PrefixOf.c : Code := bodyOf Tryd.f44
def spec_PrefixOf.h : Nat → Hint := look ⟨[], [], []⟩ []
def spec_PrefixOf.ps : List PK := [.one, .one]
def spec_PrefixOf.rs : List RK := [.agg 2 true, .one true]
def spec_PrefixOf.vs : List ResultVar := [.cell 4 26, .tmp 5]
def spec_PrefixOf.x : Cx := ⟨tt, look none [(32, some spec_AddrOk.K), (42, some spec_l01In.K), (33, some spec_l08Size.K)]⟩
def spec_PrefixOf.f (k : Nat) (a0 : Int) (a1 : Int) : Option (Int × Int × Bool) :=
  (spec_AddrOk.f k a0).bind fun r1 => (bif (!r1) then some ((0 : Int), (0 : Int), false) else (spec_l01In.f k a1 (0 : Int) (32 : Int)).bind fun r2 => (bif (!r2) then some ((0 : Int), (0 : Int), false) else (spec_l08Size.f k a1).bind fun r3 => (bif (r3 == 0) then none else some ((IntKind.i64.wrap (a0 - (a0.tmod r3))), a1, true))))
def spec_PrefixOf.K : Ctr := ⟨spec_PrefixOf.ps, spec_PrefixOf.rs, false, (.two (.int .i64) (.int .i64)), (.two (.int .i64) (.two (.int .i64) .bool)), fun k x => spec_PrefixOf.f k x.1 x.2⟩
theorem spec_PrefixOf.eq (k : Nat) (x : (spec_PrefixOf.K.I).den) : func spec_PrefixOf.x spec_PrefixOf.h spec_PrefixOf.ps spec_PrefixOf.rs spec_PrefixOf.vs spec_PrefixOf.K.I spec_PrefixOf.K.O spec_PrefixOf.c k x = spec_PrefixOf.K.run k x := by
  show _ = spec_PrefixOf.f k x.1 x.2
  kernel_rfl
theorem spec_PrefixOf.ok : CtrOk Tryd.prog 44 spec_PrefixOf.K :=
  CtrOk.of (fn := Tryd.f44) (cd := spec_PrefixOf.c) (cx := spec_PrefixOf.x) (hs := spec_PrefixOf.h) (by kernel_rfl) (by kernel_rfl) (by kernel_rfl) (by kernel_rfl) tt_ok (envOk_cons spec_AddrOk.ok (envOk_cons spec_l01In.ok (envOk_cons spec_l08Size.ok (envOk_nil)))) (by kernel_rfl) (by kernel_rfl) (by kernel_rfl) (by kernel_rfl) fun k x r h => (spec_PrefixOf.eq k x).trans h
/-! spec.l08Prefix -/
noncomputable def spec_l08Prefix.c : Code := bodyOf Tryd.f25
def spec_l08Prefix.h : Nat → Hint := look ⟨[], [], []⟩ []
def spec_l08Prefix.ps : List PK := [.box 59 3]
def spec_l08Prefix.rs : List RK := [.agg 2 true]
def spec_l08Prefix.vs : List ResultVar := [.cell 2 26]
def spec_l08Prefix.x : Cx := ⟨tt, look none [(24, some spec_l01Below.K), (45, some spec_l01PickInt.K), (44, some spec_PrefixOf.K)]⟩
def spec_l08Prefix.f (k : Nat) (a0_0 : List (Int)) (a0_1 : Int) (a0_2 : Int) : Option (Int × Int × (List (Int)) × Int × Int) :=
  (spec_l01Below.f k a0_0 a0_1 a0_2 (1024 : Int)).bind fun r1 => (spec_l01PickInt.f k r1.2.1 r1.2.2.1 r1.2.2.2 [(0 : Int), (8 : Int), (22 : Int), (24 : Int), (25 : Int), (26 : Int), (28 : Int), (29 : Int), (30 : Int), (31 : Int), (32 : Int)]).bind fun r2 => (spec_PrefixOf.f k (IntKind.i64.wrap ((167772160 : Int) + r1.1)) r2.1).bind fun r3 => some (r3.1, r3.2.1, r2.2.1, r2.2.2.1, r2.2.2.2)
def spec_l08Prefix.K : Ctr := ⟨spec_l08Prefix.ps, spec_l08Prefix.rs, true, (.two (.sl 5 (.int .u8)) (.two (.int .i64) (.int .i64))), (.two (.int .i64) (.two (.int .i64) (.two (.sl 5 (.int .u8)) (.two (.int .i64) (.int .i64))))), fun k x => spec_l08Prefix.f k x.1 x.2.1 x.2.2⟩
theorem spec_l08Prefix.eq (k : Nat) (x : (spec_l08Prefix.K.I).den) : func spec_l08Prefix.x spec_l08Prefix.h spec_l08Prefix.ps spec_l08Prefix.rs spec_l08Prefix.vs spec_l08Prefix.K.I spec_l08Prefix.K.O spec_l08Prefix.c k x = spec_l08Prefix.K.run k x := by
  show _ = spec_l08Prefix.f k x.1 x.2.1 x.2.2
  kernel_rfl
theorem spec_l08Prefix.ok : CtrOk Tryd.prog 25 spec_l08Prefix.K :=
  CtrOk.of (fn := Tryd.f25) (cd := spec_l08Prefix.c) (cx := spec_l08Prefix.x) (hs := spec_l08Prefix.h) (by kernel_rfl) (by kernel_rfl) (by kernel_rfl) (by kernel_rfl) tt_ok (envOk_cons spec_l01Below.ok (envOk_cons spec_l01PickInt.ok (envOk_cons spec_PrefixOf.ok (envOk_nil)))) (by kernel_rfl) (by kernel_rfl) (by kernel_rfl) (by kernel_rfl) fun k x r h => (spec_l08Prefix.eq k x).trans h
/-! spec.DrawAddrs -/
noncomputable def spec_DrawAddrs.c : Code := bodyOf Tryd.f7
def spec_DrawAddrs.h : Nat → Hint := look ⟨[], [], []⟩ [(0, ⟨[3, 4, 5, 6], [48, 128], [(.b 128 0, 368, 5, (.int .u8)), (.t 5, 369, 3, (.int .i64))]⟩)]
def spec_DrawAddrs.ps : List PK := [.one]
def spec_DrawAddrs.rs : List RK := [.one true, .agg 2 true]
def spec_DrawAddrs.vs : List ResultVar := [.tmp 2, .cell 3 26]
def spec_DrawAddrs.x : Cx := ⟨tt, look none [(23, some spec_l01New.K), (24, some spec_l01Below.K), (25, some spec_l08Prefix.K)]⟩
def spec_DrawAddrs.s0 (k : Nat) (rec0 : (Int × (List (Int)) × Int × Int × Int × Int × (List (Int)) × (List (Int))) → Option ((List (Int)) × Int × Int)) (p : (Int × (List (Int)) × Int × Int × Int × Int × (List (Int)) × (List (Int)))) : Option ((List (Int)) × Int × Int) :=
  (bif (decide (p.1 < (6 : Int))) then (spec_l01Below.f k p.2.2.2.2.2.2.1 p.2.2.2.2.1 p.2.2.2.2.2.1 (1024 : Int)).bind fun r2 => (bif decide ((p.2.2.2.2.2.2.2.length + [(IntKind.i64.wrap ((167772160 : Int) + r2.1))].length) * 8 ≤ 140737488355328) then rec0 ((IntKind.i64.wrap (p.1 + (1 : Int))), p.2.1, p.2.2.1, p.2.2.2.1, r2.2.2.1, r2.2.2.2, r2.2.1, (p.2.2.2.2.2.2.2 ++ [(IntKind.i64.wrap ((167772160 : Int) + r2.1))])) else none) else (spec_l08Prefix.f k p.2.2.2.2.2.2.1 p.2.2.2.2.1 p.2.2.2.2.2.1).bind fun r3 => some (p.2.2.2.2.2.2.2, r3.1, r3.2.1))
def spec_DrawAddrs.l0 (k : Nat) : Nat → (Int × (List (Int)) × Int × Int × Int × Int × (List (Int)) × (List (Int))) → Option ((List (Int)) × Int × Int)
  | 0 => fun _ => none
  | j + 1 => spec_DrawAddrs.s0 k (spec_DrawAddrs.l0 k j)
def spec_DrawAddrs.S0 (p : (Int × (List (Int)) × Int × Int × Int × Int × (List (Int)) × (List (Int)))) : DS := ⟨tl [(3, .at (.bptr 48 0)), (4, .at (.bptr 128 0)), (5, .at (.whole 369)), (6, .at (.int .i64 p.1))], lookO [(0, .row 5 (.int .u8) false p.2.1), (48, .box 26 [.int .i64 p.2.2.1, .int .i64 p.2.2.2.1]), (128, .box 59 [.whole 368, .int .i64 p.2.2.2.2.1, .int .i64 p.2.2.2.2.2.1]), (368, .row 5 (.int .u8) false p.2.2.2.2.2.2.1), (369, .row 3 (.int .i64) true p.2.2.2.2.2.2.2)]⟩
noncomputable def spec_DrawAddrs.D0 (k : Nat) (j : Nat) (p : (Int × (List (Int)) × Int × Int × Int × Int × (List (Int)) × (List (Int)))) : Option ((List (Int)) × Int × Int) := loopK (norm [0] (spec_DrawAddrs.h 0)) (runK spec_DrawAddrs.x k 0 [0] spec_DrawAddrs.h 0 (sub spec_DrawAddrs.c [1, 1, 1, 0, 1, 0, 0])) j (spec_DrawAddrs.S0 p) (kBlk 0 (kSeq (runK spec_DrawAddrs.x k 0 [0] spec_DrawAddrs.h 0 (sub spec_DrawAddrs.c [1, 1, 1, 1])) (fin tt spec_DrawAddrs.ps spec_DrawAddrs.rs spec_DrawAddrs.vs (.two (.sl 3 (.int .i64)) (.two (.int .i64) (.int .i64))))))
theorem spec_DrawAddrs.D0_eq (k : Nat) : ∀ j, spec_DrawAddrs.D0 k j = spec_DrawAddrs.l0 k j := by
  intro j
  induction j with
  | zero => rfl
  | succ j ih =>
    show _ = spec_DrawAddrs.s0 k (spec_DrawAddrs.l0 k j)
    rw [← ih]
    funext p
    kernel_rfl
def spec_DrawAddrs.f (k : Nat) (a0 : List (Int)) : Option ((List (Int)) × Int × Int) :=
  (spec_l01New.f k a0).bind fun r1 => spec_DrawAddrs.l0 k k ((0 : Int), a0, (0 : Int), (0 : Int), r1.2.1, r1.2.2, r1.1, ([] : List (Int)))
def spec_DrawAddrs.K : Ctr := ⟨spec_DrawAddrs.ps, spec_DrawAddrs.rs, false, (.sl 5 (.int .u8)), (.two (.sl 3 (.int .i64)) (.two (.int .i64) (.int .i64))), fun k x => spec_DrawAddrs.f k x⟩
theorem spec_DrawAddrs.eq (k : Nat) (x : (spec_DrawAddrs.K.I).den) : func spec_DrawAddrs.x spec_DrawAddrs.h spec_DrawAddrs.ps spec_DrawAddrs.rs spec_DrawAddrs.vs spec_DrawAddrs.K.I spec_DrawAddrs.K.O spec_DrawAddrs.c k x = spec_DrawAddrs.K.run k x := by
  show _ = spec_DrawAddrs.f k x
  unfold spec_DrawAddrs.f
  rw [← spec_DrawAddrs.D0_eq k k]
  kernel_rfl
theorem spec_DrawAddrs.ok : CtrOk Tryd.prog 7 spec_DrawAddrs.K :=
  CtrOk.of (fn := Tryd.f7) (cd := spec_DrawAddrs.c) (cx := spec_DrawAddrs.x) (hs := spec_DrawAddrs.h) (by kernel_rfl) (by kernel_rfl) (by kernel_rfl) (by kernel_rfl) tt_ok (envOk_cons spec_l01New.ok (envOk_cons spec_l01Below.ok (envOk_cons spec_l08Prefix.ok (envOk_nil)))) (by kernel_rfl) (by kernel_rfl) (by kernel_rfl) (by kernel_rfl) fun k x r h => (spec_DrawAddrs.eq k x).trans h
/-! impl.within -/
noncomputable def impl_within.c : Code := bodyOf Tryd.f29
def impl_within.h : Nat → Hint := look ⟨[], [], []⟩ []
def impl_within.ps : List PK := [.one, .one, .one]
def impl_within.rs : List RK := [.one true]
def impl_within.vs : List ResultVar := [.tmp 6]
def impl_within.x : Cx := ⟨tt, look none []⟩
def impl_within.f (_k : Nat) (a0 : Int) (a1 : Int) (a2 : Int) : Option (Bool) :=
  (bif (decide (a0 ≥ a1)) then some (decide (a0 ≤ a2)) else some false)
def impl_within.K : Ctr := ⟨impl_within.ps, impl_within.rs, false, (.two (.int .i64) (.two (.int .i64) (.int .i64))), .bool, fun k x => impl_within.f k x.1 x.2.1 x.2.2⟩
theorem impl_within.eq (k : Nat) (x : (impl_within.K.I).den) : func impl_within.x impl_within.h impl_within.ps impl_within.rs impl_within.vs impl_within.K.I impl_within.K.O impl_within.c k x = impl_within.K.run k x := by
  show _ = impl_within.f k x.1 x.2.1 x.2.2
  kernel_rfl
theorem impl_within.ok : CtrOk Tryd.prog 29 impl_within.K :=
  CtrOk.of (fn := Tryd.f29) (cd := impl_within.c) (cx := impl_within.x) (hs := impl_within.h) (by kernel_rfl) (by kernel_rfl) (by kernel_rfl) (by kernel_rfl) tt_ok (envOk_nil) (by kernel_rfl) (by kernel_rfl) (by kernel_rfl) (by kernel_rfl) fun k x r h => (impl_within.eq k x).trans h
/-! impl.AddrOk -/
noncomputable def impl_AddrOk.c : Code := bodyOf Tryd.f16
def impl_AddrOk.h : Nat → Hint := look ⟨[], [], []⟩ []
def impl_AddrOk.ps : List PK := [.one]
def impl_AddrOk.rs : List RK := [.one true]
def impl_AddrOk.vs : List ResultVar := [.tmp 2]
def impl_AddrOk.x : Cx := ⟨tt, look none [(29, some impl_within.K)]⟩
def impl_AddrOk.f (k : Nat) (a0 : Int) : Option (Bool) :=
  (impl_within.f k a0 (0 : Int) (4294967295 : Int)).bind fun r1 => some r1
def impl_AddrOk.K : Ctr := ⟨impl_AddrOk.ps, impl_AddrOk.rs, false, (.int .i64), .bool, fun k x => impl_AddrOk.f k x⟩
theorem impl_AddrOk.eq (k : Nat) (x : (impl_AddrOk.K.I).den) : func impl_AddrOk.x impl_AddrOk.h impl_AddrOk.ps impl_AddrOk.rs impl_AddrOk.vs impl_AddrOk.K.I impl_AddrOk.K.O impl_AddrOk.c k x = impl_AddrOk.K.run k x := by
  show _ = impl_AddrOk.f k x
  kernel_rfl
theorem impl_AddrOk.ok : CtrOk Tryd.prog 16 impl_AddrOk.K :=
  CtrOk.of (fn := Tryd.f16) (cd := impl_AddrOk.c) (cx := impl_AddrOk.x) (hs := impl_AddrOk.h) (by kernel_rfl) (by kernel_rfl) (by kernel_rfl) (by kernel_rfl) tt_ok (envOk_cons impl_within.ok (envOk_nil)) (by kernel_rfl) (by kernel_rfl) (by kernel_rfl) (by kernel_rfl) fun k x r h => (impl_AddrOk.eq k x).trans h
/-! impl.lastBits -/
noncomputable def impl_lastBits.c : Code := bodyOf Tryd.f30
def impl_lastBits.h : Nat → Hint := look ⟨[], [], []⟩ []
def impl_lastBits.ps : List PK := [.one]
def impl_lastBits.rs : List RK := [.one true]
def impl_lastBits.vs : List ResultVar := [.tmp 2]
def impl_lastBits.x : Cx := ⟨tt, look none []⟩
def impl_lastBits.f (_k : Nat) (a0 : Int) : Option (Int) :=
  (bif (decide ((IntKind.i64.wrap ((32 : Int) - a0)) < (0 : Int))) then none else some (IntKind.i64.wrap ((IntKind.i64.wrap ((1 : Int) * 2 ^ (min (IntKind.i64.wrap ((32 : Int) - a0)).toNat IntKind.i64.bits))) - (1 : Int))))
def impl_lastBits.K : Ctr := ⟨impl_lastBits.ps, impl_lastBits.rs, false, (.int .i64), (.int .i64), fun k x => impl_lastBits.f k x⟩
theorem impl_lastBits.eq (k : Nat) (x : (impl_lastBits.K.I).den) : func impl_lastBits.x impl_lastBits.h impl_lastBits.ps impl_lastBits.rs impl_lastBits.vs impl_lastBits.K.I impl_lastBits.K.O impl_lastBits.c k x = impl_lastBits.K.run k x := by
  show _ = impl_lastBits.f k x
  kernel_rfl
theorem impl_lastBits.ok : CtrOk Tryd.prog 30 impl_lastBits.K :=
  CtrOk.of (fn := Tryd.f30) (cd := impl_lastBits.c) (cx := impl_lastBits.x) (hs := impl_lastBits.h) (by kernel_rfl) (by kernel_rfl) (by kernel_rfl) (by kernel_rfl) tt_ok (envOk_nil) (by kernel_rfl) (by kernel_rfl) (by kernel_rfl) (by kernel_rfl) fun k x r h => (impl_lastBits.eq k x).trans h
/-! impl.PrefixOk -/
noncomputable def impl_PrefixOk.c : Code := bodyOf Tryd.f10
def impl_PrefixOk.h : Nat → Hint := look ⟨[], [], []⟩ []
def impl_PrefixOk.ps : List PK := [.agg 2]
def impl_PrefixOk.rs : List RK := [.one true]
def impl_PrefixOk.vs : List ResultVar := [.tmp 2]
def impl_PrefixOk.x : Cx := ⟨tt, look none [(16, some impl_AddrOk.K), (29, some impl_within.K), (30, some impl_lastBits.K)]⟩
def impl_PrefixOk.f (k : Nat) (a0_0 : Int) (a0_1 : Int) : Option (Bool) :=
  (impl_AddrOk.f k a0_0).bind fun r1 => (bif r1 then (impl_within.f k a0_1 (0 : Int) (32 : Int)).bind fun r2 => (bif r2 then (impl_lastBits.f k a0_1).bind fun r3 => some ((IntKind.i64.wrap (((BitVec.ofInt IntKind.i64.bits a0_0) &&& (BitVec.ofInt IntKind.i64.bits r3)).toNat : Int)) == (0 : Int)) else some false) else some false)
def impl_PrefixOk.K : Ctr := ⟨impl_PrefixOk.ps, impl_PrefixOk.rs, false, (.two (.int .i64) (.int .i64)), .bool, fun k x => impl_PrefixOk.f k x.1 x.2⟩
theorem impl_PrefixOk.eq (k : Nat) (x : (impl_PrefixOk.K.I).den) : func impl_PrefixOk.x impl_PrefixOk.h impl_PrefixOk.ps impl_PrefixOk.rs impl_PrefixOk.vs impl_PrefixOk.K.I impl_PrefixOk.K.O impl_PrefixOk.c k x = impl_PrefixOk.K.run k x := by
  show _ = impl_PrefixOk.f k x.1 x.2
  kernel_rfl
theorem impl_PrefixOk.ok : CtrOk Tryd.prog 10 impl_PrefixOk.K :=
  CtrOk.of (fn := Tryd.f10) (cd := impl_PrefixOk.c) (cx := impl_PrefixOk.x) (hs := impl_PrefixOk.h) (by kernel_rfl) (by kernel_rfl) (by kernel_rfl) (by kernel_rfl) tt_ok (envOk_cons impl_AddrOk.ok (envOk_cons impl_within.ok (envOk_cons impl_lastBits.ok (envOk_nil)))) (by kernel_rfl) (by kernel_rfl) (by kernel_rfl) (by kernel_rfl) fun k x r h => (impl_PrefixOk.eq k x).trans h
/-! strconv.Itoa -/
def strconv_Itoa.f (_k : Nat) (a0 : Int) : Option (ByteArray) := itoaRun a0
def strconv_Itoa.K : Ctr := itoaCtr
theorem strconv_Itoa.ok : CtrOk Tryd.prog 46 strconv_Itoa.K := lib46
/-! impl.Decimal -/
noncomputable def impl_Decimal.c : Code := bodyOf Tryd.f26
def impl_Decimal.h : Nat → Hint := look ⟨[], [], []⟩ []
def impl_Decimal.ps : List PK := [.one]
def impl_Decimal.rs : List RK := [.one true]
def impl_Decimal.vs : List ResultVar := [.tmp 2]
def impl_Decimal.x : Cx := ⟨tt, look none [(46, some strconv_Itoa.K)]⟩
def impl_Decimal.f (k : Nat) (a0 : Int) : Option (ByteArray) :=
  (strconv_Itoa.f k a0).bind fun r1 => some r1
def impl_Decimal.K : Ctr := ⟨impl_Decimal.ps, impl_Decimal.rs, false, (.int .i64), .str, fun k x => impl_Decimal.f k x⟩
theorem impl_Decimal.eq (k : Nat) (x : (impl_Decimal.K.I).den) : func impl_Decimal.x impl_Decimal.h impl_Decimal.ps impl_Decimal.rs impl_Decimal.vs impl_Decimal.K.I impl_Decimal.K.O impl_Decimal.c k x = impl_Decimal.K.run k x := by
  show _ = impl_Decimal.f k x
  kernel_rfl
theorem impl_Decimal.ok : CtrOk Tryd.prog 26 impl_Decimal.K :=
  CtrOk.of (fn := Tryd.f26) (cd := impl_Decimal.c) (cx := impl_Decimal.x) (hs := impl_Decimal.h) (by kernel_rfl) (by kernel_rfl) (by kernel_rfl) (by kernel_rfl) tt_ok (envOk_cons strconv_Itoa.ok (envOk_nil)) (by kernel_rfl) (by kernel_rfl) (by kernel_rfl) (by kernel_rfl) fun k x r h => (impl_Decimal.eq k x).trans h
/-! impl.AddrText -/
noncomputable def impl_AddrText.c : Code := bodyOf Tryd.f12
def impl_AddrText.h : Nat → Hint := look ⟨[], [], []⟩ []
def impl_AddrText.ps : List PK := [.one]
def impl_AddrText.rs : List RK := [.one true]
def impl_AddrText.vs : List ResultVar := [.tmp 2]
def impl_AddrText.x : Cx := ⟨tt, look none [(16, some impl_AddrOk.K), (26, some impl_Decimal.K)]⟩
def impl_AddrText.f (k : Nat) (a0 : Int) : Option (ByteArray) :=
  (impl_AddrOk.f k a0).bind fun r1 => (bif (!r1) then some ByteArray.empty else (impl_Decimal.f k (a0.fdiv (2 ^ 24))).bind fun r2 => (bif decide (r2.size + (⟨#[46]⟩ : ByteArray).size ≤ 140737488351232) then (impl_Decimal.f k (IntKind.i64.wrap (((BitVec.ofInt IntKind.i64.bits (a0.fdiv (2 ^ 16))) &&& (BitVec.ofInt IntKind.i64.bits (255 : Int))).toNat : Int))).bind fun r3 => (bif decide ((r2 ++ (⟨#[46]⟩ : ByteArray)).size + r3.size ≤ 140737488351232) then (bif decide (((r2 ++ (⟨#[46]⟩ : ByteArray)) ++ r3).size + (⟨#[46]⟩ : ByteArray).size ≤ 140737488351232) then (impl_Decimal.f k (IntKind.i64.wrap (((BitVec.ofInt IntKind.i64.bits (a0.fdiv (2 ^ 8))) &&& (BitVec.ofInt IntKind.i64.bits (255 : Int))).toNat : Int))).bind fun r4 => (bif decide ((((r2 ++ (⟨#[46]⟩ : ByteArray)) ++ r3) ++ (⟨#[46]⟩ : ByteArray)).size + r4.size ≤ 140737488351232) then (bif decide (((((r2 ++ (⟨#[46]⟩ : ByteArray)) ++ r3) ++ (⟨#[46]⟩ : ByteArray)) ++ r4).size + (⟨#[46]⟩ : ByteArray).size ≤ 140737488351232) then (impl_Decimal.f k (IntKind.i64.wrap (((BitVec.ofInt IntKind.i64.bits a0) &&& (BitVec.ofInt IntKind.i64.bits (255 : Int))).toNat : Int))).bind fun r5 => (bif decide ((((((r2 ++ (⟨#[46]⟩ : ByteArray)) ++ r3) ++ (⟨#[46]⟩ : ByteArray)) ++ r4) ++ (⟨#[46]⟩ : ByteArray)).size + r5.size ≤ 140737488351232) then some ((((((r2 ++ (⟨#[46]⟩ : ByteArray)) ++ r3) ++ (⟨#[46]⟩ : ByteArray)) ++ r4) ++ (⟨#[46]⟩ : ByteArray)) ++ r5) else none) else none) else none) else none) else none) else none))
def impl_AddrText.K : Ctr := ⟨impl_AddrText.ps, impl_AddrText.rs, false, (.int .i64), .str, fun k x => impl_AddrText.f k x⟩
theorem impl_AddrText.eq (k : Nat) (x : (impl_AddrText.K.I).den) : func impl_AddrText.x impl_AddrText.h impl_AddrText.ps impl_AddrText.rs impl_AddrText.vs impl_AddrText.K.I impl_AddrText.K.O impl_AddrText.c k x = impl_AddrText.K.run k x := by
  show _ = impl_AddrText.f k x
  kernel_rfl
theorem impl_AddrText.ok : CtrOk Tryd.prog 12 impl_AddrText.K :=
  CtrOk.of (fn := Tryd.f12) (cd := impl_AddrText.c) (cx := impl_AddrText.x) (hs := impl_AddrText.h) (by kernel_rfl) (by kernel_rfl) (by kernel_rfl) (by kernel_rfl) tt_ok (envOk_cons impl_AddrOk.ok (envOk_cons impl_Decimal.ok (envOk_nil))) (by kernel_rfl) (by kernel_rfl) (by kernel_rfl) (by kernel_rfl) fun k x r h => (impl_AddrText.eq k x).trans h
/-! impl.PrefixText -/
noncomputable def impl_PrefixText.c : Code := bodyOf Tryd.f8
def impl_PrefixText.h : Nat → Hint := look ⟨[], [], []⟩ []
def impl_PrefixText.ps : List PK := [.agg 2]
def impl_PrefixText.rs : List RK := [.one true, .one true]
def impl_PrefixText.vs : List ResultVar := [.tmp 2, .tmp 3]
def impl_PrefixText.x : Cx := ⟨tt, look none [(10, some impl_PrefixOk.K), (12, some impl_AddrText.K), (26, some impl_Decimal.K)]⟩
def impl_PrefixText.f (k : Nat) (a0_0 : Int) (a0_1 : Int) : Option (ByteArray × Bool) :=
  (impl_PrefixOk.f k a0_0 a0_1).bind fun r1 => (bif (!r1) then some (ByteArray.empty, false) else (impl_AddrText.f k a0_0).bind fun r2 => (bif decide (r2.size + (⟨#[47]⟩ : ByteArray).size ≤ 140737488351232) then (impl_Decimal.f k a0_1).bind fun r3 => (bif decide ((r2 ++ (⟨#[47]⟩ : ByteArray)).size + r3.size ≤ 140737488351232) then some (((r2 ++ (⟨#[47]⟩ : ByteArray)) ++ r3), true) else none) else none))
def impl_PrefixText.K : Ctr := ⟨impl_PrefixText.ps, impl_PrefixText.rs, false, (.two (.int .i64) (.int .i64)), (.two .str .bool), fun k x => impl_PrefixText.f k x.1 x.2⟩
theorem impl_PrefixText.eq (k : Nat) (x : (impl_PrefixText.K.I).den) : func impl_PrefixText.x impl_PrefixText.h impl_PrefixText.ps impl_PrefixText.rs impl_PrefixText.vs impl_PrefixText.K.I impl_PrefixText.K.O impl_PrefixText.c k x = impl_PrefixText.K.run k x := by
  show _ = impl_PrefixText.f k x.1 x.2
  kernel_rfl
theorem impl_PrefixText.ok : CtrOk Tryd.prog 8 impl_PrefixText.K :=
  CtrOk.of (fn := Tryd.f8) (cd := impl_PrefixText.c) (cx := impl_PrefixText.x) (hs := impl_PrefixText.h) (by kernel_rfl) (by kernel_rfl) (by kernel_rfl) (by kernel_rfl) tt_ok (envOk_cons impl_PrefixOk.ok (envOk_cons impl_AddrText.ok (envOk_cons impl_Decimal.ok (envOk_nil)))) (by kernel_rfl) (by kernel_rfl) (by kernel_rfl) (by kernel_rfl) fun k x r h => (impl_PrefixText.eq k x).trans h
/-! strings.Cut -/
def strings_Cut.f (_k : Nat) (a0 : ByteArray) (a1 : ByteArray) : Option (ByteArray × ByteArray × Bool) := cutRun a0 a1
def strings_Cut.K : Ctr := cutCtr
theorem strings_Cut.ok : CtrOk Tryd.prog 27 strings_Cut.K := lib27
/-! strings.Split -/
def strings_Split.f (_k : Nat) (a0 : ByteArray) (a1 : ByteArray) : Option ((List (ByteArray))) := splitRun a0 a1
def strings_Split.K : Ctr := splitRCtr 9
theorem strings_Split.ok : CtrOk Tryd.prog 31 strings_Split.K := lib31
/-! impl.ReadDecimal -/
def impl_ReadDecimal.f (_k : Nat) (a0 : ByteArray) : Option (Int × Bool) := readDRun a0
def impl_ReadDecimal.K : Ctr := readDCtr
theorem impl_ReadDecimal.ok : CtrOk Tryd.prog 28 impl_ReadDecimal.K := lib28
/-! impl.ReadAddr -/
noncomputable def impl_ReadAddr.c : Code := bodyOf Tryd.f11
def impl_ReadAddr.h : Nat → Hint := look ⟨[], [], []⟩ [(0, ⟨[4, 5, 12, 13, 14], [], [(.t 4, 640, 9, .str), (.t 12, 641, 9, .str)]⟩)]
def impl_ReadAddr.ps : List PK := [.one]
def impl_ReadAddr.rs : List RK := [.one true, .one true]
def impl_ReadAddr.vs : List ResultVar := [.tmp 2, .tmp 3]
def impl_ReadAddr.x : Cx := ⟨tt, look none [(31, some strings_Split.K), (28, some impl_ReadDecimal.K)]⟩
def impl_ReadAddr.s0 (k : Nat) (rec0 : (Int × Int × Int × (List (ByteArray)) × (List (ByteArray))) → Option (Int × Bool)) (p : (Int × Int × Int × (List (ByteArray)) × (List (ByteArray)))) : Option (Int × Bool) :=
  (bif (decide (p.2.2.1 < p.2.1)) then (bif ((decide ((0 : Int) ≤ p.2.2.1)) && (decide (p.2.2.1 < (p.2.2.2.2.length : Int)))) then (p.2.2.2.2[p.2.2.1.toNat]?).bind fun x2 => (impl_ReadDecimal.f k x2).bind fun r3 => (bif (!r3.2) then some ((0 : Int), false) else (bif (decide (r3.1 > (255 : Int))) then some ((0 : Int), false) else (bif ((p.2.2.2.1.length : Int) != (4 : Int)) then some ((0 : Int), false) else rec0 ((IntKind.i64.wrap (((BitVec.ofInt IntKind.i64.bits (IntKind.i64.wrap (p.1 * 2 ^ 8))) ||| (BitVec.ofInt IntKind.i64.bits r3.1)).toNat : Int)), p.2.1, (IntKind.i64.wrap (p.2.2.1 + (1 : Int))), p.2.2.2.1, p.2.2.2.2)))) else none) else some (p.1, true))
def impl_ReadAddr.l0 (k : Nat) : Nat → (Int × Int × Int × (List (ByteArray)) × (List (ByteArray))) → Option (Int × Bool)
  | 0 => fun _ => none
  | j + 1 => impl_ReadAddr.s0 k (impl_ReadAddr.l0 k j)
def impl_ReadAddr.S0 (p : (Int × Int × Int × (List (ByteArray)) × (List (ByteArray)))) : DS := ⟨tl [(4, .at (.whole 640)), (5, .at (.int .i64 p.1)), (12, .at (.whole 641)), (13, .at (.int .i64 p.2.1)), (14, .at (.int .i64 p.2.2.1))], lookO [(640, .row 9 .str false p.2.2.2.1), (641, .row 9 .str false p.2.2.2.2)]⟩
noncomputable def impl_ReadAddr.D0 (k : Nat) (j : Nat) (p : (Int × Int × Int × (List (ByteArray)) × (List (ByteArray)))) : Option (Int × Bool) := loopK (norm [] (impl_ReadAddr.h 0)) (runK impl_ReadAddr.x k 0 [] impl_ReadAddr.h 0 (sub impl_ReadAddr.c [1, 1, 1, 0, 1, 0, 0])) j (impl_ReadAddr.S0 p) (kBlk 0 (kSeq (runK impl_ReadAddr.x k 0 [] impl_ReadAddr.h 0 (sub impl_ReadAddr.c [1, 1, 1, 1])) (fin tt impl_ReadAddr.ps impl_ReadAddr.rs impl_ReadAddr.vs (.two (.int .i64) .bool))))
theorem impl_ReadAddr.D0_eq (k : Nat) : ∀ j, impl_ReadAddr.D0 k j = impl_ReadAddr.l0 k j := by
  intro j
  induction j with
  | zero => rfl
  | succ j ih =>
    show _ = impl_ReadAddr.s0 k (impl_ReadAddr.l0 k j)
    rw [← ih]
    funext p
    kernel_rfl
def impl_ReadAddr.f (k : Nat) (a0 : ByteArray) : Option (Int × Bool) :=
  (strings_Split.f k a0 (⟨#[46]⟩ : ByteArray)).bind fun r1 => impl_ReadAddr.l0 k k ((0 : Int), (r1.length : Int), (0 : Int), r1, r1)
def impl_ReadAddr.K : Ctr := ⟨impl_ReadAddr.ps, impl_ReadAddr.rs, false, .str, (.two (.int .i64) .bool), fun k x => impl_ReadAddr.f k x⟩
theorem impl_ReadAddr.eq (k : Nat) (x : (impl_ReadAddr.K.I).den) : func impl_ReadAddr.x impl_ReadAddr.h impl_ReadAddr.ps impl_ReadAddr.rs impl_ReadAddr.vs impl_ReadAddr.K.I impl_ReadAddr.K.O impl_ReadAddr.c k x = impl_ReadAddr.K.run k x := by
  show _ = impl_ReadAddr.f k x
  unfold impl_ReadAddr.f
  rw [← impl_ReadAddr.D0_eq k k]
  kernel_rfl
theorem impl_ReadAddr.ok : CtrOk Tryd.prog 11 impl_ReadAddr.K :=
  CtrOk.of (fn := Tryd.f11) (cd := impl_ReadAddr.c) (cx := impl_ReadAddr.x) (hs := impl_ReadAddr.h) (by kernel_rfl) (by kernel_rfl) (by kernel_rfl) (by kernel_rfl) tt_ok (envOk_cons strings_Split.ok (envOk_cons impl_ReadDecimal.ok (envOk_nil))) (by kernel_rfl) (by kernel_rfl) (by kernel_rfl) (by kernel_rfl) fun k x r h => (impl_ReadAddr.eq k x).trans h
end Go.Proofs.YtpheniajdbbphaaDoor.DI
