/- FnAddrReads: functions as plain Lean, in the machine of values. -/
import Derived.Test.YtpheniajdbbphaaDoorVFnAddrReads0
namespace Go.Proofs.YtpheniajdbbphaaDoor.DI
open Go
set_option linter.unusedVariables false
/-! laws.big -/
noncomputable def laws_big.c : Code := bodyOf Tryd.f6
def laws_big.h : Nat → Hint := look ⟨[], [], []⟩ []
def laws_big.ps : List PK := [.one]
def laws_big.rs : List RK := [.one true]
def laws_big.vs : List ResultVar := [.tmp 2]
def laws_big.x : Cx := ⟨tt, look none []⟩
def laws_big.f (_k : Nat) (a0 : List (Int)) : Option (Bool) :=
  some (decide ((a0.length : Int) > (1048576 : Int)))
def laws_big.K : Ctr := ⟨laws_big.ps, laws_big.rs, false, (.sl 5 (.int .u8)), .bool, fun k x => laws_big.f k x⟩
theorem laws_big.eq (k : Nat) (x : (laws_big.K.I).den) : func laws_big.x laws_big.h laws_big.ps laws_big.rs laws_big.vs laws_big.K.I laws_big.K.O laws_big.c k x = laws_big.K.run k x := by
  show _ = laws_big.f k x
  kernel_rfl
theorem laws_big.ok : CtrOk Tryd.prog 6 laws_big.K :=
  CtrOk.of (fn := Tryd.f6) (cd := laws_big.c) (cx := laws_big.x) (hs := laws_big.h) (by kernel_rfl) (by kernel_rfl) (by kernel_rfl) (by kernel_rfl) tt_ok (envOk_nil) (by kernel_rfl) (by kernel_rfl) (by kernel_rfl) (by kernel_rfl) fun k x r h => (laws_big.eq k x).trans h
/-! spec.l01New -/
noncomputable def spec_l01New.c : Code := bodyOf Tryd.f23
def spec_l01New.h : Nat → Hint := look ⟨[], [], []⟩ [(0, ⟨[0, 3, 4], [], []⟩)]
def spec_l01New.ps : List PK := [.one]
def spec_l01New.rs : List RK := [.ptr 59 3 false]
def spec_l01New.vs : List ResultVar := [.tmp 2]
def spec_l01New.x : Cx := ⟨tt, look none []⟩
def spec_l01New.s0 (_k : Nat) (rec0 : (Int × Int × (List (Int))) → Option ((List (Int)) × Int × Int)) (p : (Int × Int × (List (Int)))) : Option ((List (Int)) × Int × Int) :=
  (bif (decide (p.2.1 < (p.2.2.length : Int))) then (bif (decide (p.2.1 < (4000 : Int))) then (bif ((decide ((0 : Int) ≤ p.2.1)) && (decide (p.2.1 < (p.2.2.length : Int)))) then (p.2.2[p.2.1.toNat]?).bind fun x1 => rec0 ((IntKind.i64.wrap (((BitVec.ofInt IntKind.i64.bits (IntKind.i64.wrap ((IntKind.i64.wrap ((IntKind.i64.wrap (p.1 * (131 : Int))) + (IntKind.i64.wrap x1))) + (7 : Int)))) &&& (BitVec.ofInt IntKind.i64.bits (1073741823 : Int))).toNat : Int)), (IntKind.i64.wrap (p.2.1 + (1 : Int))), p.2.2) else none) else some (p.2.2, (0 : Int), p.1)) else some (p.2.2, (0 : Int), p.1))
def spec_l01New.l0 (k : Nat) : Nat → (Int × Int × (List (Int))) → Option ((List (Int)) × Int × Int)
  | 0 => fun _ => none
  | j + 1 => spec_l01New.s0 k (spec_l01New.l0 k j)
def spec_l01New.S0 (p : (Int × Int × (List (Int)))) : DS := ⟨tl [(0, .at (.whole 0)), (3, .at (.int .i64 p.1)), (4, .at (.int .i64 p.2.1))], lookO [(0, .row 5 (.int .u8) false p.2.2)]⟩
noncomputable def spec_l01New.D0 (k : Nat) (j : Nat) (p : (Int × Int × (List (Int)))) : Option ((List (Int)) × Int × Int) := loopK (norm [0] (spec_l01New.h 0)) (runK spec_l01New.x k 0 [0] spec_l01New.h 0 (sub spec_l01New.c [1, 1, 0, 1, 0, 0])) j (spec_l01New.S0 p) (kBlk 0 (kSeq (runK spec_l01New.x k 0 [0] spec_l01New.h 0 (sub spec_l01New.c [1, 1, 1])) (fin tt spec_l01New.ps spec_l01New.rs spec_l01New.vs (.two (.sl 5 (.int .u8)) (.two (.int .i64) (.int .i64))))))
theorem spec_l01New.D0_eq (k : Nat) : ∀ j, spec_l01New.D0 k j = spec_l01New.l0 k j := by
  intro j
  induction j with
  | zero => rfl
  | succ j ih =>
    show _ = spec_l01New.s0 k (spec_l01New.l0 k j)
    rw [← ih]
    funext p
    kernel_rfl
def spec_l01New.f (k : Nat) (a0 : List (Int)) : Option ((List (Int)) × Int × Int) :=
  spec_l01New.l0 k k ((IntKind.i64.wrap ((36201 : Int) + (a0.length : Int))), (0 : Int), a0)
def spec_l01New.K : Ctr := ⟨spec_l01New.ps, spec_l01New.rs, true, (.sl 5 (.int .u8)), (.two (.sl 5 (.int .u8)) (.two (.int .i64) (.int .i64))), fun k x => spec_l01New.f k x⟩
theorem spec_l01New.eq (k : Nat) (x : (spec_l01New.K.I).den) : func spec_l01New.x spec_l01New.h spec_l01New.ps spec_l01New.rs spec_l01New.vs spec_l01New.K.I spec_l01New.K.O spec_l01New.c k x = spec_l01New.K.run k x := by
  show _ = spec_l01New.f k x
  unfold spec_l01New.f
  rw [← spec_l01New.D0_eq k k]
  kernel_rfl
theorem spec_l01New.ok : CtrOk Tryd.prog 23 spec_l01New.K :=
  CtrOk.of (fn := Tryd.f23) (cd := spec_l01New.c) (cx := spec_l01New.x) (hs := spec_l01New.h) (by kernel_rfl) (by kernel_rfl) (by kernel_rfl) (by kernel_rfl) tt_ok (envOk_nil) (by kernel_rfl) (by kernel_rfl) (by kernel_rfl) (by kernel_rfl) fun k x r h => (spec_l01New.eq k x).trans h
/-! spec.l01Byte -/
noncomputable def spec_l01Byte.c : Code := bodyOf Tryd.f43
def spec_l01Byte.h : Nat → Hint := look ⟨[], [], []⟩ []
def spec_l01Byte.ps : List PK := [.box 59 3]
def spec_l01Byte.rs : List RK := [.one true]
def spec_l01Byte.vs : List ResultVar := [.tmp 2]
def spec_l01Byte.x : Cx := ⟨tt, look none []⟩
def spec_l01Byte.f (_k : Nat) (a0_0 : List (Int)) (a0_1 : Int) (a0_2 : Int) : Option (Int × (List (Int)) × Int × Int) :=
  (bif (decide (a0_1 < (a0_0.length : Int))) then (bif ((decide ((0 : Int) ≤ a0_1)) && (decide (a0_1 < (a0_0.length : Int)))) then (a0_0[a0_1.toNat]?).bind fun x1 => some ((IntKind.i64.wrap (((BitVec.ofInt IntKind.i64.bits (IntKind.i64.wrap ((IntKind.i64.wrap (((BitVec.ofInt IntKind.i64.bits (IntKind.i64.wrap (((BitVec.ofInt IntKind.i64.bits ((IntKind.i64.wrap ((IntKind.i64.wrap (a0_2 * (6364136223846793005 : Int))) + (1442695040888963407 : Int))).fdiv (2 ^ 33))) ^^^ (BitVec.ofInt IntKind.i64.bits ((IntKind.i64.wrap ((IntKind.i64.wrap (a0_2 * (6364136223846793005 : Int))) + (1442695040888963407 : Int))).fdiv (2 ^ 45)))).toNat : Int))) &&& (BitVec.ofInt IntKind.i64.bits (255 : Int))).toNat : Int)) + (IntKind.i64.wrap x1)))) &&& (BitVec.ofInt IntKind.i64.bits (255 : Int))).toNat : Int)), a0_0, (IntKind.i64.wrap (a0_1 + (1 : Int))), (IntKind.i64.wrap ((IntKind.i64.wrap (a0_2 * (6364136223846793005 : Int))) + (1442695040888963407 : Int)))) else none) else some ((IntKind.i64.wrap (((BitVec.ofInt IntKind.i64.bits (IntKind.i64.wrap (((BitVec.ofInt IntKind.i64.bits ((IntKind.i64.wrap ((IntKind.i64.wrap (a0_2 * (6364136223846793005 : Int))) + (1442695040888963407 : Int))).fdiv (2 ^ 33))) ^^^ (BitVec.ofInt IntKind.i64.bits ((IntKind.i64.wrap ((IntKind.i64.wrap (a0_2 * (6364136223846793005 : Int))) + (1442695040888963407 : Int))).fdiv (2 ^ 45)))).toNat : Int))) &&& (BitVec.ofInt IntKind.i64.bits (255 : Int))).toNat : Int)), a0_0, a0_1, (IntKind.i64.wrap ((IntKind.i64.wrap (a0_2 * (6364136223846793005 : Int))) + (1442695040888963407 : Int)))))
def spec_l01Byte.K : Ctr := ⟨spec_l01Byte.ps, spec_l01Byte.rs, true, (.two (.sl 5 (.int .u8)) (.two (.int .i64) (.int .i64))), (.two (.int .i64) (.two (.sl 5 (.int .u8)) (.two (.int .i64) (.int .i64)))), fun k x => spec_l01Byte.f k x.1 x.2.1 x.2.2⟩
theorem spec_l01Byte.eq (k : Nat) (x : (spec_l01Byte.K.I).den) : func spec_l01Byte.x spec_l01Byte.h spec_l01Byte.ps spec_l01Byte.rs spec_l01Byte.vs spec_l01Byte.K.I spec_l01Byte.K.O spec_l01Byte.c k x = spec_l01Byte.K.run k x := by
  show _ = spec_l01Byte.f k x.1 x.2.1 x.2.2
  kernel_rfl
theorem spec_l01Byte.ok : CtrOk Tryd.prog 43 spec_l01Byte.K :=
  CtrOk.of (fn := Tryd.f43) (cd := spec_l01Byte.c) (cx := spec_l01Byte.x) (hs := spec_l01Byte.h) (by kernel_rfl) (by kernel_rfl) (by kernel_rfl) (by kernel_rfl) tt_ok (envOk_nil) (by kernel_rfl) (by kernel_rfl) (by kernel_rfl) (by kernel_rfl) fun k x r h => (spec_l01Byte.eq k x).trans h
/-! spec.l01Below -/
noncomputable def spec_l01Below.c : Code := bodyOf Tryd.f24
def spec_l01Below.h : Nat → Hint := look ⟨[], [], []⟩ []
def spec_l01Below.ps : List PK := [.box 59 3, .one]
def spec_l01Below.rs : List RK := [.one true]
def spec_l01Below.vs : List ResultVar := [.tmp 4]
def spec_l01Below.x : Cx := ⟨tt, look none [(43, some spec_l01Byte.K)]⟩
def spec_l01Below.f (k : Nat) (a0_0 : List (Int)) (a0_1 : Int) (a0_2 : Int) (a1 : Int) : Option (Int × (List (Int)) × Int × Int) :=
  (bif (decide (a1 ≤ (0 : Int))) then some ((0 : Int), a0_0, a0_1, a0_2) else (bif (decide (a1 ≤ (256 : Int))) then (spec_l01Byte.f k a0_0 a0_1 a0_2).bind fun r1 => (bif (a1 == 0) then none else some ((r1.1.tmod a1), r1.2.1, r1.2.2.1, r1.2.2.2)) else (spec_l01Byte.f k a0_0 a0_1 a0_2).bind fun r2 => (spec_l01Byte.f k r2.2.1 r2.2.2.1 r2.2.2.2).bind fun r3 => (spec_l01Byte.f k r3.2.1 r3.2.2.1 r3.2.2.2).bind fun r4 => (spec_l01Byte.f k r4.2.1 r4.2.2.1 r4.2.2.2).bind fun r5 => (bif (a1 == 0) then none else some (((IntKind.i64.wrap ((IntKind.i64.wrap ((IntKind.i64.wrap ((IntKind.i64.wrap (r2.1 * (16777216 : Int))) + (IntKind.i64.wrap (r3.1 * (65536 : Int))))) + (IntKind.i64.wrap (r4.1 * (256 : Int))))) + r5.1)).tmod a1), r5.2.1, r5.2.2.1, r5.2.2.2))))
def spec_l01Below.K : Ctr := ⟨spec_l01Below.ps, spec_l01Below.rs, true, (.two (.sl 5 (.int .u8)) (.two (.int .i64) (.two (.int .i64) (.int .i64)))), (.two (.int .i64) (.two (.sl 5 (.int .u8)) (.two (.int .i64) (.int .i64)))), fun k x => spec_l01Below.f k x.1 x.2.1 x.2.2.1 x.2.2.2⟩
theorem spec_l01Below.eq (k : Nat) (x : (spec_l01Below.K.I).den) : func spec_l01Below.x spec_l01Below.h spec_l01Below.ps spec_l01Below.rs spec_l01Below.vs spec_l01Below.K.I spec_l01Below.K.O spec_l01Below.c k x = spec_l01Below.K.run k x := by
  show _ = spec_l01Below.f k x.1 x.2.1 x.2.2.1 x.2.2.2
  kernel_rfl
theorem spec_l01Below.ok : CtrOk Tryd.prog 24 spec_l01Below.K :=
  CtrOk.of (fn := Tryd.f24) (cd := spec_l01Below.c) (cx := spec_l01Below.x) (hs := spec_l01Below.h) (by kernel_rfl) (by kernel_rfl) (by kernel_rfl) (by kernel_rfl) tt_ok (envOk_cons spec_l01Byte.ok (envOk_nil)) (by kernel_rfl) (by kernel_rfl) (by kernel_rfl) (by kernel_rfl) fun k x r h => (spec_l01Below.eq k x).trans h
/-! spec.l01PickInt -/
noncomputable def spec_l01PickInt.c : Code := bodyOf Tryd.f45
def spec_l01PickInt.h : Nat → Hint := look ⟨[], [], []⟩ []
def spec_l01PickInt.ps : List PK := [.box 59 3, .one]
def spec_l01PickInt.rs : List RK := [.one true]
def spec_l01PickInt.vs : List ResultVar := [.tmp 4]
def spec_l01PickInt.x : Cx := ⟨tt, look none [(24, some spec_l01Below.K)]⟩
def spec_l01PickInt.f (k : Nat) (a0_0 : List (Int)) (a0_1 : Int) (a0_2 : Int) (a1 : List (Int)) : Option (Int × (List (Int)) × Int × Int) :=
  (spec_l01Below.f k a0_0 a0_1 a0_2 (a1.length : Int)).bind fun r1 => (bif ((decide ((0 : Int) ≤ r1.1)) && (decide (r1.1 < (a1.length : Int)))) then (a1[r1.1.toNat]?).bind fun x2 => some (x2, r1.2.1, r1.2.2.1, r1.2.2.2) else none)
def spec_l01PickInt.K : Ctr := ⟨spec_l01PickInt.ps, spec_l01PickInt.rs, true, (.two (.sl 5 (.int .u8)) (.two (.int .i64) (.two (.int .i64) (.sl 3 (.int .i64))))), (.two (.int .i64) (.two (.sl 5 (.int .u8)) (.two (.int .i64) (.int .i64)))), fun k x => spec_l01PickInt.f k x.1 x.2.1 x.2.2.1 x.2.2.2⟩
theorem spec_l01PickInt.eq (k : Nat) (x : (spec_l01PickInt.K.I).den) : func spec_l01PickInt.x spec_l01PickInt.h spec_l01PickInt.ps spec_l01PickInt.rs spec_l01PickInt.vs spec_l01PickInt.K.I spec_l01PickInt.K.O spec_l01PickInt.c k x = spec_l01PickInt.K.run k x := by
  show _ = spec_l01PickInt.f k x.1 x.2.1 x.2.2.1 x.2.2.2
  kernel_rfl
theorem spec_l01PickInt.ok : CtrOk Tryd.prog 45 spec_l01PickInt.K :=
  CtrOk.of (fn := Tryd.f45) (cd := spec_l01PickInt.c) (cx := spec_l01PickInt.x) (hs := spec_l01PickInt.h) (by kernel_rfl) (by kernel_rfl) (by kernel_rfl) (by kernel_rfl) tt_ok (envOk_cons spec_l01Below.ok (envOk_nil)) (by kernel_rfl) (by kernel_rfl) (by kernel_rfl) (by kernel_rfl) fun k x r h => (spec_l01PickInt.eq k x).trans h
/-! spec.l08Addr -/
noncomputable def spec_l08Addr.c : Code := bodyOf Tryd.f37
def spec_l08Addr.h : Nat → Hint := look ⟨[], [], []⟩ []
def spec_l08Addr.ps : List PK := [.box 59 3]
def spec_l08Addr.rs : List RK := [.one true]
def spec_l08Addr.vs : List ResultVar := [.tmp 2]
def spec_l08Addr.x : Cx := ⟨tt, look none [(24, some spec_l01Below.K), (45, some spec_l01PickInt.K)]⟩
def spec_l08Addr.f (k : Nat) (a0_0 : List (Int)) (a0_1 : Int) (a0_2 : Int) : Option (Int × (List (Int)) × Int × Int) :=
  (spec_l01Below.f k a0_0 a0_1 a0_2 (6 : Int)).bind fun r1 => (bif (r1.1 == (0 : Int)) then (spec_l01PickInt.f k r1.2.1 r1.2.2.1 r1.2.2.2 [(0 : Int), (4294967295 : Int), (4294967296 : Int), (-1 : Int)]).bind fun r2 => some (r2.1, r2.2.1, r2.2.2.1, r2.2.2.2) else (bif (r1.1 == (1 : Int)) then (spec_l01Below.f k r1.2.1 r1.2.2.1 r1.2.2.2 (4294967296 : Int)).bind fun r3 => some (r3.1, r3.2.1, r3.2.2.1, r3.2.2.2) else (spec_l01Below.f k r1.2.1 r1.2.2.1 r1.2.2.2 (1024 : Int)).bind fun r4 => some ((IntKind.i64.wrap ((167772160 : Int) + r4.1)), r4.2.1, r4.2.2.1, r4.2.2.2)))
def spec_l08Addr.K : Ctr := ⟨spec_l08Addr.ps, spec_l08Addr.rs, true, (.two (.sl 5 (.int .u8)) (.two (.int .i64) (.int .i64))), (.two (.int .i64) (.two (.sl 5 (.int .u8)) (.two (.int .i64) (.int .i64)))), fun k x => spec_l08Addr.f k x.1 x.2.1 x.2.2⟩
theorem spec_l08Addr.eq (k : Nat) (x : (spec_l08Addr.K.I).den) : func spec_l08Addr.x spec_l08Addr.h spec_l08Addr.ps spec_l08Addr.rs spec_l08Addr.vs spec_l08Addr.K.I spec_l08Addr.K.O spec_l08Addr.c k x = spec_l08Addr.K.run k x := by
  show _ = spec_l08Addr.f k x.1 x.2.1 x.2.2
  kernel_rfl
theorem spec_l08Addr.ok : CtrOk Tryd.prog 37 spec_l08Addr.K :=
  CtrOk.of (fn := Tryd.f37) (cd := spec_l08Addr.c) (cx := spec_l08Addr.x) (hs := spec_l08Addr.h) (by kernel_rfl) (by kernel_rfl) (by kernel_rfl) (by kernel_rfl) tt_ok (envOk_cons spec_l01Below.ok (envOk_cons spec_l01PickInt.ok (envOk_nil))) (by kernel_rfl) (by kernel_rfl) (by kernel_rfl) (by kernel_rfl) fun k x r h => (spec_l08Addr.eq k x).trans h
/-! spec.l01In -/
noncomputable def spec_l01In.c : Code := bodyOf Tryd.f42
def spec_l01In.h : Nat → Hint := look ⟨[], [], []⟩ []
def spec_l01In.ps : List PK := [.one, .one, .one]
def spec_l01In.rs : List RK := [.one true]
def spec_l01In.vs : List ResultVar := [.tmp 6]
def spec_l01In.x : Cx := ⟨tt, look none []⟩
def spec_l01In.f (_k : Nat) (a0 : Int) (a1 : Int) (a2 : Int) : Option (Bool) :=
  (bif (decide (a0 ≥ a1)) then some (decide (a0 ≤ a2)) else some false)
def spec_l01In.K : Ctr := ⟨spec_l01In.ps, spec_l01In.rs, false, (.two (.int .i64) (.two (.int .i64) (.int .i64))), .bool, fun k x => spec_l01In.f k x.1 x.2.1 x.2.2⟩
theorem spec_l01In.eq (k : Nat) (x : (spec_l01In.K.I).den) : func spec_l01In.x spec_l01In.h spec_l01In.ps spec_l01In.rs spec_l01In.vs spec_l01In.K.I spec_l01In.K.O spec_l01In.c k x = spec_l01In.K.run k x := by
  show _ = spec_l01In.f k x.1 x.2.1 x.2.2
  kernel_rfl
theorem spec_l01In.ok : CtrOk Tryd.prog 42 spec_l01In.K :=
  CtrOk.of (fn := Tryd.f42) (cd := spec_l01In.c) (cx := spec_l01In.x) (hs := spec_l01In.h) (by kernel_rfl) (by kernel_rfl) (by kernel_rfl) (by kernel_rfl) tt_ok (envOk_nil) (by kernel_rfl) (by kernel_rfl) (by kernel_rfl) (by kernel_rfl) fun k x r h => (spec_l01In.eq k x).trans h
/-! spec.AddrOk -/
noncomputable def spec_AddrOk.c : Code := bodyOf Tryd.f32
def spec_AddrOk.h : Nat → Hint := look ⟨[], [], []⟩ []
def spec_AddrOk.ps : List PK := [.one]
def spec_AddrOk.rs : List RK := [.one true]
def spec_AddrOk.vs : List ResultVar := [.tmp 2]
def spec_AddrOk.x : Cx := ⟨tt, look none [(42, some spec_l01In.K)]⟩
def spec_AddrOk.f (k : Nat) (a0 : Int) : Option (Bool) :=
  (spec_l01In.f k a0 (0 : Int) (4294967295 : Int)).bind fun r1 => some r1
def spec_AddrOk.K : Ctr := ⟨spec_AddrOk.ps, spec_AddrOk.rs, false, (.int .i64), .bool, fun k x => spec_AddrOk.f k x⟩
theorem spec_AddrOk.eq (k : Nat) (x : (spec_AddrOk.K.I).den) : func spec_AddrOk.x spec_AddrOk.h spec_AddrOk.ps spec_AddrOk.rs spec_AddrOk.vs spec_AddrOk.K.I spec_AddrOk.K.O spec_AddrOk.c k x = spec_AddrOk.K.run k x := by
  show _ = spec_AddrOk.f k x
  kernel_rfl
theorem spec_AddrOk.ok : CtrOk Tryd.prog 32 spec_AddrOk.K :=
  CtrOk.of (fn := Tryd.f32) (cd := spec_AddrOk.c) (cx := spec_AddrOk.x) (hs := spec_AddrOk.h) (by kernel_rfl) (by kernel_rfl) (by kernel_rfl) (by kernel_rfl) tt_ok (envOk_cons spec_l01In.ok (envOk_nil)) (by kernel_rfl) (by kernel_rfl) (by kernel_rfl) (by kernel_rfl) fun k x r h => (spec_AddrOk.eq k x).trans h
/-! spec.l01Figure -/
noncomputable def spec_l01Figure.c : Code := bodyOf Tryd.f59
def spec_l01Figure.h : Nat → Hint := look ⟨[], [], []⟩ []
def spec_l01Figure.ps : List PK := [.one]
def spec_l01Figure.rs : List RK := [.one true]
def spec_l01Figure.vs : List ResultVar := [.tmp 2]
def spec_l01Figure.x : Cx := ⟨tt, look none []⟩
def spec_l01Figure.f (_k : Nat) (a0 : Int) : Option (Int) :=
  (bif (decide (a0 < (10 : Int))) then some (IntKind.u8.wrap (IntKind.i64.wrap ((48 : Int) + a0))) else some (IntKind.u8.wrap (IntKind.i64.wrap ((IntKind.i64.wrap ((97 : Int) + a0)) - (10 : Int)))))
def spec_l01Figure.K : Ctr := ⟨spec_l01Figure.ps, spec_l01Figure.rs, false, (.int .i64), (.int .u8), fun k x => spec_l01Figure.f k x⟩
theorem spec_l01Figure.eq (k : Nat) (x : (spec_l01Figure.K.I).den) : func spec_l01Figure.x spec_l01Figure.h spec_l01Figure.ps spec_l01Figure.rs spec_l01Figure.vs spec_l01Figure.K.I spec_l01Figure.K.O spec_l01Figure.c k x = spec_l01Figure.K.run k x := by
  show _ = spec_l01Figure.f k x
  kernel_rfl
theorem spec_l01Figure.ok : CtrOk Tryd.prog 59 spec_l01Figure.K :=
  CtrOk.of (fn := Tryd.f59) (cd := spec_l01Figure.c) (cx := spec_l01Figure.x) (hs := spec_l01Figure.h) (by kernel_rfl) (by kernel_rfl) (by kernel_rfl) (by kernel_rfl) tt_ok (envOk_nil) (by kernel_rfl) (by kernel_rfl) (by kernel_rfl) (by kernel_rfl) fun k x r h => (spec_l01Figure.eq k x).trans h
/-! spec.Decimal -/
noncomputable def spec_Decimal.c : Code := bodyOf Tryd.f50
def spec_Decimal.h : Nat → Hint := look ⟨[], [], []⟩ [(0, ⟨[0, 3, 4], [], []⟩)]
def spec_Decimal.ps : List PK := [.one]
def spec_Decimal.rs : List RK := [.one true]
def spec_Decimal.vs : List ResultVar := [.tmp 2]
def spec_Decimal.x : Cx := ⟨tt, look none [(59, some spec_l01Figure.K)]⟩
def spec_Decimal.s0 (k : Nat) (rec0 : (Int × Bool × ByteArray) → Option (ByteArray)) (p : (Int × Bool × ByteArray)) : Option (ByteArray) :=
  (bif (p.1 != (0 : Int)) then (bif (decide ((p.1.tmod (10 : Int)) < (0 : Int))) then (spec_l01Figure.f k (IntKind.i64.wrap (0 - (p.1.tmod (10 : Int))))).bind fun r1 => (bif decide ((strOfNums [r1]).size + p.2.2.size ≤ 140737488351232) then rec0 ((IntKind.i64.wrap (p.1.tdiv (10 : Int))), p.2.1, ((strOfNums [r1]) ++ p.2.2)) else none) else (spec_l01Figure.f k (p.1.tmod (10 : Int))).bind fun r2 => (bif decide ((strOfNums [r2]).size + p.2.2.size ≤ 140737488351232) then rec0 ((IntKind.i64.wrap (p.1.tdiv (10 : Int))), p.2.1, ((strOfNums [r2]) ++ p.2.2)) else none)) else (bif p.2.1 then (bif decide ((⟨#[45]⟩ : ByteArray).size + p.2.2.size ≤ 140737488351232) then some ((⟨#[45]⟩ : ByteArray) ++ p.2.2) else none) else some p.2.2))
def spec_Decimal.l0 (k : Nat) : Nat → (Int × Bool × ByteArray) → Option (ByteArray)
  | 0 => fun _ => none
  | j + 1 => spec_Decimal.s0 k (spec_Decimal.l0 k j)
def spec_Decimal.S0 (p : (Int × Bool × ByteArray)) : DS := ⟨tl [(0, .at (.int .i64 p.1)), (3, .at (.bool p.2.1)), (4, .at (.str p.2.2))], lookO []⟩
noncomputable def spec_Decimal.D0 (k : Nat) (j : Nat) (p : (Int × Bool × ByteArray)) : Option (ByteArray) := loopK (norm [] (spec_Decimal.h 0)) (runK spec_Decimal.x k 0 [] spec_Decimal.h 0 (sub spec_Decimal.c [1, 1, 1, 1, 0, 0, 0])) j (spec_Decimal.S0 p) (kBlk 0 (kSeq (runK spec_Decimal.x k 0 [] spec_Decimal.h 0 (sub spec_Decimal.c [1, 1, 1, 1, 1])) (fin tt spec_Decimal.ps spec_Decimal.rs spec_Decimal.vs .str)))
theorem spec_Decimal.D0_eq (k : Nat) : ∀ j, spec_Decimal.D0 k j = spec_Decimal.l0 k j := by
  intro j
  induction j with
  | zero => rfl
  | succ j ih =>
    show _ = spec_Decimal.s0 k (spec_Decimal.l0 k j)
    rw [← ih]
    funext p
    kernel_rfl
def spec_Decimal.f (k : Nat) (a0 : Int) : Option (ByteArray) :=
  (bif (a0 == (0 : Int)) then some (⟨#[48]⟩ : ByteArray) else spec_Decimal.l0 k k (a0, (decide (a0 < (0 : Int))), ByteArray.empty))
def spec_Decimal.K : Ctr := ⟨spec_Decimal.ps, spec_Decimal.rs, false, (.int .i64), .str, fun k x => spec_Decimal.f k x⟩
theorem spec_Decimal.eq (k : Nat) (x : (spec_Decimal.K.I).den) : func spec_Decimal.x spec_Decimal.h spec_Decimal.ps spec_Decimal.rs spec_Decimal.vs spec_Decimal.K.I spec_Decimal.K.O spec_Decimal.c k x = spec_Decimal.K.run k x := by
  show _ = spec_Decimal.f k x
  unfold spec_Decimal.f
  rw [← spec_Decimal.D0_eq k k]
  kernel_rfl
theorem spec_Decimal.ok : CtrOk Tryd.prog 50 spec_Decimal.K :=
  CtrOk.of (fn := Tryd.f50) (cd := spec_Decimal.c) (cx := spec_Decimal.x) (hs := spec_Decimal.h) (by kernel_rfl) (by kernel_rfl) (by kernel_rfl) (by kernel_rfl) tt_ok (envOk_cons spec_l01Figure.ok (envOk_nil)) (by kernel_rfl) (by kernel_rfl) (by kernel_rfl) (by kernel_rfl) fun k x r h => (spec_Decimal.eq k x).trans h
/-! spec.AddrText -/
noncomputable def spec_AddrText.c : Code := bodyOf Tryd.f36
def spec_AddrText.h : Nat → Hint := look ⟨[], [], []⟩ []
def spec_AddrText.ps : List PK := [.one]
def spec_AddrText.rs : List RK := [.one true]
def spec_AddrText.vs : List ResultVar := [.tmp 2]
def spec_AddrText.x : Cx := ⟨tt, look none [(32, some spec_AddrOk.K), (50, some spec_Decimal.K)]⟩
def spec_AddrText.f (k : Nat) (a0 : Int) : Option (ByteArray) :=
  (spec_AddrOk.f k a0).bind fun r1 => (bif (!r1) then some ByteArray.empty else (spec_Decimal.f k (IntKind.i64.wrap (a0.tdiv (16777216 : Int)))).bind fun r2 => (bif decide (r2.size + (⟨#[46]⟩ : ByteArray).size ≤ 140737488351232) then (spec_Decimal.f k ((IntKind.i64.wrap (a0.tdiv (65536 : Int))).tmod (256 : Int))).bind fun r3 => (bif decide ((r2 ++ (⟨#[46]⟩ : ByteArray)).size + r3.size ≤ 140737488351232) then (bif decide (((r2 ++ (⟨#[46]⟩ : ByteArray)) ++ r3).size + (⟨#[46]⟩ : ByteArray).size ≤ 140737488351232) then (spec_Decimal.f k ((IntKind.i64.wrap (a0.tdiv (256 : Int))).tmod (256 : Int))).bind fun r4 => (bif decide ((((r2 ++ (⟨#[46]⟩ : ByteArray)) ++ r3) ++ (⟨#[46]⟩ : ByteArray)).size + r4.size ≤ 140737488351232) then (bif decide (((((r2 ++ (⟨#[46]⟩ : ByteArray)) ++ r3) ++ (⟨#[46]⟩ : ByteArray)) ++ r4).size + (⟨#[46]⟩ : ByteArray).size ≤ 140737488351232) then (spec_Decimal.f k (a0.tmod (256 : Int))).bind fun r5 => (bif decide ((((((r2 ++ (⟨#[46]⟩ : ByteArray)) ++ r3) ++ (⟨#[46]⟩ : ByteArray)) ++ r4) ++ (⟨#[46]⟩ : ByteArray)).size + r5.size ≤ 140737488351232) then some ((((((r2 ++ (⟨#[46]⟩ : ByteArray)) ++ r3) ++ (⟨#[46]⟩ : ByteArray)) ++ r4) ++ (⟨#[46]⟩ : ByteArray)) ++ r5) else none) else none) else none) else none) else none) else none))
def spec_AddrText.K : Ctr := ⟨spec_AddrText.ps, spec_AddrText.rs, false, (.int .i64), .str, fun k x => spec_AddrText.f k x⟩
theorem spec_AddrText.eq (k : Nat) (x : (spec_AddrText.K.I).den) : func spec_AddrText.x spec_AddrText.h spec_AddrText.ps spec_AddrText.rs spec_AddrText.vs spec_AddrText.K.I spec_AddrText.K.O spec_AddrText.c k x = spec_AddrText.K.run k x := by
  show _ = spec_AddrText.f k x
  kernel_rfl
theorem spec_AddrText.ok : CtrOk Tryd.prog 36 spec_AddrText.K :=
  CtrOk.of (fn := Tryd.f36) (cd := spec_AddrText.c) (cx := spec_AddrText.x) (hs := spec_AddrText.h) (by kernel_rfl) (by kernel_rfl) (by kernel_rfl) (by kernel_rfl) tt_ok (envOk_cons spec_AddrOk.ok (envOk_cons spec_Decimal.ok (envOk_nil))) (by kernel_rfl) (by kernel_rfl) (by kernel_rfl) (by kernel_rfl) fun k x r h => (spec_AddrText.eq k x).trans h
/-! spec.l01Pick -/
noncomputable def spec_l01Pick.c : Code := bodyOf Tryd.f38
def spec_l01Pick.h : Nat → Hint := look ⟨[], [], []⟩ []
def spec_l01Pick.ps : List PK := [.box 59 3, .one]
def spec_l01Pick.rs : List RK := [.one true]
def spec_l01Pick.vs : List ResultVar := [.tmp 4]
def spec_l01Pick.x : Cx := ⟨tt, look none [(24, some spec_l01Below.K)]⟩
def spec_l01Pick.f (k : Nat) (a0_0 : List (Int)) (a0_1 : Int) (a0_2 : Int) (a1 : List (ByteArray)) : Option (ByteArray × (List (Int)) × Int × Int) :=
  (spec_l01Below.f k a0_0 a0_1 a0_2 (a1.length : Int)).bind fun r1 => (bif ((decide ((0 : Int) ≤ r1.1)) && (decide (r1.1 < (a1.length : Int)))) then (a1[r1.1.toNat]?).bind fun x2 => some (x2, r1.2.1, r1.2.2.1, r1.2.2.2) else none)
def spec_l01Pick.K : Ctr := ⟨spec_l01Pick.ps, spec_l01Pick.rs, true, (.two (.sl 5 (.int .u8)) (.two (.int .i64) (.two (.int .i64) (.sl 9 .str)))), (.two .str (.two (.sl 5 (.int .u8)) (.two (.int .i64) (.int .i64)))), fun k x => spec_l01Pick.f k x.1 x.2.1 x.2.2.1 x.2.2.2⟩
theorem spec_l01Pick.eq (k : Nat) (x : (spec_l01Pick.K.I).den) : func spec_l01Pick.x spec_l01Pick.h spec_l01Pick.ps spec_l01Pick.rs spec_l01Pick.vs spec_l01Pick.K.I spec_l01Pick.K.O spec_l01Pick.c k x = spec_l01Pick.K.run k x := by
  show _ = spec_l01Pick.f k x.1 x.2.1 x.2.2.1 x.2.2.2
  kernel_rfl
theorem spec_l01Pick.ok : CtrOk Tryd.prog 38 spec_l01Pick.K :=
  CtrOk.of (fn := Tryd.f38) (cd := spec_l01Pick.c) (cx := spec_l01Pick.x) (hs := spec_l01Pick.h) (by kernel_rfl) (by kernel_rfl) (by kernel_rfl) (by kernel_rfl) tt_ok (envOk_cons spec_l01Below.ok (envOk_nil)) (by kernel_rfl) (by kernel_rfl) (by kernel_rfl) (by kernel_rfl) fun k x r h => (spec_l01Pick.eq k x).trans h
/-! spec.l01Text -/
noncomputable def spec_l01Text.c : Code := bodyOf Tryd.f51
def spec_l01Text.h : Nat → Hint := look ⟨[], [], []⟩ [(0, ⟨[0, 1, 5, 6], [], [(.b 0 0, 368, 5, (.int .u8)), (.t 5, 369, 5, (.int .u8))]⟩)]
def spec_l01Text.ps : List PK := [.box 59 3, .one]
def spec_l01Text.rs : List RK := [.one true]
def spec_l01Text.vs : List ResultVar := [.tmp 4]
def spec_l01Text.x : Cx := ⟨tt, look none [(43, some spec_l01Byte.K)]⟩
def spec_l01Text.s0 (k : Nat) (rec0 : (Int × Int × Int × Int × (List (Int)) × (List (Int)) × (List (Int))) → Option (ByteArray × (List (Int)) × Int × Int)) (p : (Int × Int × Int × Int × (List (Int)) × (List (Int)) × (List (Int)))) : Option (ByteArray × (List (Int)) × Int × Int) :=
  (bif (decide (p.2.1 < p.1)) then (spec_l01Byte.f k p.2.2.2.2.2.1 p.2.2.1 p.2.2.2.1).bind fun r1 => (bif decide ((p.2.2.2.2.2.2.length + [(IntKind.u8.wrap r1.1)].length) * 1 ≤ 140737488355328) then rec0 (p.1, (IntKind.i64.wrap (p.2.1 + (1 : Int))), r1.2.2.1, r1.2.2.2, p.2.2.2.2.1, r1.2.1, (p.2.2.2.2.2.2 ++ [(IntKind.u8.wrap r1.1)])) else none) else some ((strOfNums p.2.2.2.2.2.2), p.2.2.2.2.2.1, p.2.2.1, p.2.2.2.1))
def spec_l01Text.l0 (k : Nat) : Nat → (Int × Int × Int × Int × (List (Int)) × (List (Int)) × (List (Int))) → Option (ByteArray × (List (Int)) × Int × Int)
  | 0 => fun _ => none
  | j + 1 => spec_l01Text.s0 k (spec_l01Text.l0 k j)
def spec_l01Text.S0 (p : (Int × Int × Int × Int × (List (Int)) × (List (Int)) × (List (Int)))) : DS := ⟨tl [(0, .at (.bptr 0 0)), (1, .at (.int .i64 p.1)), (5, .at (.whole 369)), (6, .at (.int .i64 p.2.1))], lookO [(0, .box 59 [.whole 368, .int .i64 p.2.2.1, .int .i64 p.2.2.2.1]), (1, .row 5 (.int .u8) false p.2.2.2.2.1), (368, .row 5 (.int .u8) false p.2.2.2.2.2.1), (369, .row 5 (.int .u8) true p.2.2.2.2.2.2)]⟩
noncomputable def spec_l01Text.D0 (k : Nat) (j : Nat) (p : (Int × Int × Int × Int × (List (Int)) × (List (Int)) × (List (Int)))) : Option (ByteArray × (List (Int)) × Int × Int) := loopK (norm [0, 1] (spec_l01Text.h 0)) (runK spec_l01Text.x k 0 [0, 1] spec_l01Text.h 0 (sub spec_l01Text.c [1, 1, 1, 0, 1, 0, 0])) j (spec_l01Text.S0 p) (kBlk 0 (kSeq (runK spec_l01Text.x k 0 [0, 1] spec_l01Text.h 0 (sub spec_l01Text.c [1, 1, 1, 1])) (fin tt spec_l01Text.ps spec_l01Text.rs spec_l01Text.vs (.two .str (.two (.sl 5 (.int .u8)) (.two (.int .i64) (.int .i64)))))))
theorem spec_l01Text.D0_eq (k : Nat) : ∀ j, spec_l01Text.D0 k j = spec_l01Text.l0 k j := by
  intro j
  induction j with
  | zero => rfl
  | succ j ih =>
    show _ = spec_l01Text.s0 k (spec_l01Text.l0 k j)
    rw [← ih]
    funext p
    kernel_rfl
def spec_l01Text.f (k : Nat) (a0_0 : List (Int)) (a0_1 : Int) (a0_2 : Int) (a1 : Int) : Option (ByteArray × (List (Int)) × Int × Int) :=
  (bif (decide (a1 > (5000 : Int))) then spec_l01Text.l0 k k ((5000 : Int), (0 : Int), a0_1, a0_2, a0_0, a0_0, ([] : List (Int))) else spec_l01Text.l0 k k (a1, (0 : Int), a0_1, a0_2, a0_0, a0_0, ([] : List (Int))))
def spec_l01Text.K : Ctr := ⟨spec_l01Text.ps, spec_l01Text.rs, true, (.two (.sl 5 (.int .u8)) (.two (.int .i64) (.two (.int .i64) (.int .i64)))), (.two .str (.two (.sl 5 (.int .u8)) (.two (.int .i64) (.int .i64)))), fun k x => spec_l01Text.f k x.1 x.2.1 x.2.2.1 x.2.2.2⟩
theorem spec_l01Text.eq (k : Nat) (x : (spec_l01Text.K.I).den) : func spec_l01Text.x spec_l01Text.h spec_l01Text.ps spec_l01Text.rs spec_l01Text.vs spec_l01Text.K.I spec_l01Text.K.O spec_l01Text.c k x = spec_l01Text.K.run k x := by
  show _ = spec_l01Text.f k x.1 x.2.1 x.2.2.1 x.2.2.2
  unfold spec_l01Text.f
  rw [← spec_l01Text.D0_eq k k]
  kernel_rfl
theorem spec_l01Text.ok : CtrOk Tryd.prog 51 spec_l01Text.K :=
  CtrOk.of (fn := Tryd.f51) (cd := spec_l01Text.c) (cx := spec_l01Text.x) (hs := spec_l01Text.h) (by kernel_rfl) (by kernel_rfl) (by kernel_rfl) (by kernel_rfl) tt_ok (envOk_cons spec_l01Byte.ok (envOk_nil)) (by kernel_rfl) (by kernel_rfl) (by kernel_rfl) (by kernel_rfl) fun k x r h => (spec_l01Text.eq k x).trans h
/-! spec.l02Spoilt -/
noncomputable def spec_l02Spoilt.c : Code := bodyOf Tryd.f39
def spec_l02Spoilt.h : Nat → Hint := look ⟨[], [], []⟩ []
def spec_l02Spoilt.ps : List PK := [.box 59 3, .one]
def spec_l02Spoilt.rs : List RK := [.one true]
def spec_l02Spoilt.vs : List ResultVar := [.tmp 4]
def spec_l02Spoilt.x : Cx := ⟨tt, look none [(24, some spec_l01Below.K), (51, some spec_l01Text.K)]⟩
def spec_l02Spoilt.f (k : Nat) (a0_0 : List (Int)) (a0_1 : Int) (a0_2 : Int) (a1 : ByteArray) : Option (ByteArray × (List (Int)) × Int × Int) :=
  (spec_l01Below.f k a0_0 a0_1 a0_2 (12 : Int)).bind fun r1 => (bif (r1.1 == (0 : Int)) then (spec_l01Text.f k r1.2.1 r1.2.2.1 r1.2.2.2 (1 : Int)).bind fun r2 => (bif decide (a1.size + r2.1.size ≤ 140737488351232) then some ((a1 ++ r2.1), r2.2.1, r2.2.2.1, r2.2.2.2) else none) else (bif (r1.1 == (1 : Int)) then (spec_l01Below.f k r1.2.1 r1.2.2.1 r1.2.2.2 (IntKind.i64.wrap ((a1.size : Int) + (1 : Int)))).bind fun r3 => (bif ((decide ((0 : Int) ≤ r3.1)) && (decide (r3.1 ≤ (a1.size : Int)))) then some ((a1.extract 0 r3.1.toNat), r3.2.1, r3.2.2.1, r3.2.2.2) else none) else (bif (r1.1 == (2 : Int)) then (bif (r1.1 == (2 : Int)) then (bif (decide ((a1.size : Int) > (0 : Int))) then (spec_l01Below.f k r1.2.1 r1.2.2.1 r1.2.2.2 (a1.size : Int)).bind fun r4 => (bif ((decide ((0 : Int) ≤ r4.1)) && (decide (r4.1 ≤ (a1.size : Int)))) then (spec_l01Text.f k r4.2.1 r4.2.2.1 r4.2.2.2 (1 : Int)).bind fun r5 => (bif decide ((a1.extract 0 r4.1.toNat).size + r5.1.size ≤ 140737488351232) then (bif ((decide ((0 : Int) ≤ (IntKind.i64.wrap (r4.1 + (1 : Int))))) && (decide ((IntKind.i64.wrap (r4.1 + (1 : Int))) ≤ (a1.size : Int)))) then (bif decide (((a1.extract 0 r4.1.toNat) ++ r5.1).size + (a1.extract (IntKind.i64.wrap (r4.1 + (1 : Int))).toNat a1.size).size ≤ 140737488351232) then some ((((a1.extract 0 r4.1.toNat) ++ r5.1) ++ (a1.extract (IntKind.i64.wrap (r4.1 + (1 : Int))).toNat a1.size)), r5.2.1, r5.2.2.1, r5.2.2.2) else none) else none) else none) else none) else some (a1, r1.2.1, r1.2.2.1, r1.2.2.2)) else some (a1, r1.2.1, r1.2.2.1, r1.2.2.2)) else (bif (r1.1 == (3 : Int)) then (bif (decide ((a1.size : Int) > (0 : Int))) then (spec_l01Below.f k r1.2.1 r1.2.2.1 r1.2.2.2 (a1.size : Int)).bind fun r6 => (bif ((decide ((0 : Int) ≤ r6.1)) && (decide (r6.1 ≤ (a1.size : Int)))) then (spec_l01Text.f k r6.2.1 r6.2.2.1 r6.2.2.2 (1 : Int)).bind fun r7 => (bif decide ((a1.extract 0 r6.1.toNat).size + r7.1.size ≤ 140737488351232) then (bif ((decide ((0 : Int) ≤ (IntKind.i64.wrap (r6.1 + (1 : Int))))) && (decide ((IntKind.i64.wrap (r6.1 + (1 : Int))) ≤ (a1.size : Int)))) then (bif decide (((a1.extract 0 r6.1.toNat) ++ r7.1).size + (a1.extract (IntKind.i64.wrap (r6.1 + (1 : Int))).toNat a1.size).size ≤ 140737488351232) then some ((((a1.extract 0 r6.1.toNat) ++ r7.1) ++ (a1.extract (IntKind.i64.wrap (r6.1 + (1 : Int))).toNat a1.size)), r7.2.1, r7.2.2.1, r7.2.2.2) else none) else none) else none) else none) else some (a1, r1.2.1, r1.2.2.1, r1.2.2.2)) else some (a1, r1.2.1, r1.2.2.1, r1.2.2.2)))))
def spec_l02Spoilt.K : Ctr := ⟨spec_l02Spoilt.ps, spec_l02Spoilt.rs, true, (.two (.sl 5 (.int .u8)) (.two (.int .i64) (.two (.int .i64) .str))), (.two .str (.two (.sl 5 (.int .u8)) (.two (.int .i64) (.int .i64)))), fun k x => spec_l02Spoilt.f k x.1 x.2.1 x.2.2.1 x.2.2.2⟩
theorem spec_l02Spoilt.eq (k : Nat) (x : (spec_l02Spoilt.K.I).den) : func spec_l02Spoilt.x spec_l02Spoilt.h spec_l02Spoilt.ps spec_l02Spoilt.rs spec_l02Spoilt.vs spec_l02Spoilt.K.I spec_l02Spoilt.K.O spec_l02Spoilt.c k x = spec_l02Spoilt.K.run k x := by
  show _ = spec_l02Spoilt.f k x.1 x.2.1 x.2.2.1 x.2.2.2
  kernel_rfl
theorem spec_l02Spoilt.ok : CtrOk Tryd.prog 39 spec_l02Spoilt.K :=
  CtrOk.of (fn := Tryd.f39) (cd := spec_l02Spoilt.c) (cx := spec_l02Spoilt.x) (hs := spec_l02Spoilt.h) (by kernel_rfl) (by kernel_rfl) (by kernel_rfl) (by kernel_rfl) tt_ok (envOk_cons spec_l01Below.ok (envOk_cons spec_l01Text.ok (envOk_nil))) (by kernel_rfl) (by kernel_rfl) (by kernel_rfl) (by kernel_rfl) fun k x r h => (spec_l02Spoilt.eq k x).trans h
/-! spec.DrawReadAddr -/
noncomputable def spec_DrawReadAddr.c : Code := bodyOf Tryd.f19
def spec_DrawReadAddr.h : Nat → Hint := look ⟨[], [], []⟩ []
def spec_DrawReadAddr.ps : List PK := [.one]
def spec_DrawReadAddr.rs : List RK := [.one true]
def spec_DrawReadAddr.vs : List ResultVar := [.tmp 2]
def spec_DrawReadAddr.x : Cx := ⟨tt, look none [(23, some spec_l01New.K), (37, some spec_l08Addr.K), (36, some spec_AddrText.K), (24, some spec_l01Below.K), (38, some spec_l01Pick.K), (39, some spec_l02Spoilt.K)]⟩
def spec_DrawReadAddr.f (k : Nat) (a0 : List (Int)) : Option (ByteArray) :=
  (spec_l01New.f k a0).bind fun r1 => (spec_l08Addr.f k r1.1 r1.2.1 r1.2.2).bind fun r2 => (spec_AddrText.f k r2.1).bind fun r3 => (spec_l01Below.f k r2.2.1 r2.2.2.1 r2.2.2.2 (6 : Int)).bind fun r4 => (bif (r4.1 == (0 : Int)) then (spec_l01Pick.f k r4.2.1 r4.2.2.1 r4.2.2.2 [ByteArray.empty, (⟨#[49, 46, 50, 46, 51]⟩ : ByteArray), (⟨#[49, 46, 50, 46, 51, 46, 52, 46, 53]⟩ : ByteArray), (⟨#[49, 46, 50, 46, 51, 46, 50, 53, 54]⟩ : ByteArray), (⟨#[49, 46, 50, 46, 46, 51]⟩ : ByteArray), (⟨#[48, 49, 46, 50, 46, 51, 46, 52]⟩ : ByteArray), (⟨#[97, 46, 98, 46, 99, 46, 100]⟩ : ByteArray), (⟨#[48, 46, 48, 46, 48, 46, 48]⟩ : ByteArray)]).bind fun r5 => some r5.1 else (bif (r4.1 == (1 : Int)) then (spec_l02Spoilt.f k r4.2.1 r4.2.2.1 r4.2.2.2 r3).bind fun r6 => some r6.1 else some r3))
def spec_DrawReadAddr.K : Ctr := ⟨spec_DrawReadAddr.ps, spec_DrawReadAddr.rs, false, (.sl 5 (.int .u8)), .str, fun k x => spec_DrawReadAddr.f k x⟩
theorem spec_DrawReadAddr.eq (k : Nat) (x : (spec_DrawReadAddr.K.I).den) : func spec_DrawReadAddr.x spec_DrawReadAddr.h spec_DrawReadAddr.ps spec_DrawReadAddr.rs spec_DrawReadAddr.vs spec_DrawReadAddr.K.I spec_DrawReadAddr.K.O spec_DrawReadAddr.c k x = spec_DrawReadAddr.K.run k x := by
  show _ = spec_DrawReadAddr.f k x
  kernel_rfl
theorem spec_DrawReadAddr.ok : CtrOk Tryd.prog 19 spec_DrawReadAddr.K :=
  CtrOk.of (fn := Tryd.f19) (cd := spec_DrawReadAddr.c) (cx := spec_DrawReadAddr.x) (hs := spec_DrawReadAddr.h) (by kernel_rfl) (by kernel_rfl) (by kernel_rfl) (by kernel_rfl) tt_ok (envOk_cons spec_l01New.ok (envOk_cons spec_l08Addr.ok (envOk_cons spec_AddrText.ok (envOk_cons spec_l01Below.ok (envOk_cons spec_l01Pick.ok (envOk_cons spec_l02Spoilt.ok (envOk_nil))))))) (by kernel_rfl) (by kernel_rfl) (by kernel_rfl) (by kernel_rfl) fun k x r h => (spec_DrawReadAddr.eq k x).trans h
/-! strings.Split -/
def strings_Split.f (_k : Nat) (a0 : ByteArray) (a1 : ByteArray) : Option ((List (ByteArray))) := splitRun a0 a1
def strings_Split.K : Ctr := splitRCtr 9
theorem strings_Split.ok : CtrOk Tryd.prog 31 strings_Split.K := lib31
/-! impl.ReadDecimal -/
def impl_ReadDecimal.f (_k : Nat) (a0 : ByteArray) : Option (Int × Bool) := readDRun a0
def impl_ReadDecimal.K : Ctr := readDCtr
theorem impl_ReadDecimal.ok : CtrOk Tryd.prog 28 impl_ReadDecimal.K := lib28
/-! impl.ReadAddr -/
noncomputable def impl_ReadAddr.c : Code := bodyOf Tryd.f11
def impl_ReadAddr.h : Nat → Hint := look ⟨[], [], []⟩ [(0, ⟨[4, 5, 12, 13, 14], [], [(.t 4, 640, 9, .str), (.t 12, 641, 9, .str)]⟩)]
def impl_ReadAddr.ps : List PK := [.one]
def impl_ReadAddr.rs : List RK := [.one true, .one true]
def impl_ReadAddr.vs : List ResultVar := [.tmp 2, .tmp 3]
def impl_ReadAddr.x : Cx := ⟨tt, look none [(31, some strings_Split.K), (28, some impl_ReadDecimal.K)]⟩
def impl_ReadAddr.s0 (k : Nat) (rec0 : (Int × Int × Int × (List (ByteArray)) × (List (ByteArray))) → Option (Int × Bool)) (p : (Int × Int × Int × (List (ByteArray)) × (List (ByteArray)))) : Option (Int × Bool) :=
  (bif (decide (p.2.2.1 < p.2.1)) then (bif ((decide ((0 : Int) ≤ p.2.2.1)) && (decide (p.2.2.1 < (p.2.2.2.2.length : Int)))) then (p.2.2.2.2[p.2.2.1.toNat]?).bind fun x2 => (impl_ReadDecimal.f k x2).bind fun r3 => (bif (!r3.2) then some ((0 : Int), false) else (bif (decide (r3.1 > (255 : Int))) then some ((0 : Int), false) else (bif ((p.2.2.2.1.length : Int) != (4 : Int)) then some ((0 : Int), false) else rec0 ((IntKind.i64.wrap (((BitVec.ofInt IntKind.i64.bits (IntKind.i64.wrap (p.1 * 2 ^ 8))) ||| (BitVec.ofInt IntKind.i64.bits r3.1)).toNat : Int)), p.2.1, (IntKind.i64.wrap (p.2.2.1 + (1 : Int))), p.2.2.2.1, p.2.2.2.2)))) else none) else some (p.1, true))
def impl_ReadAddr.l0 (k : Nat) : Nat → (Int × Int × Int × (List (ByteArray)) × (List (ByteArray))) → Option (Int × Bool)
  | 0 => fun _ => none
  | j + 1 => impl_ReadAddr.s0 k (impl_ReadAddr.l0 k j)
def impl_ReadAddr.S0 (p : (Int × Int × Int × (List (ByteArray)) × (List (ByteArray)))) : DS := ⟨tl [(4, .at (.whole 640)), (5, .at (.int .i64 p.1)), (12, .at (.whole 641)), (13, .at (.int .i64 p.2.1)), (14, .at (.int .i64 p.2.2.1))], lookO [(640, .row 9 .str false p.2.2.2.1), (641, .row 9 .str false p.2.2.2.2)]⟩
noncomputable def impl_ReadAddr.D0 (k : Nat) (j : Nat) (p : (Int × Int × Int × (List (ByteArray)) × (List (ByteArray)))) : Option (Int × Bool) := loopK (norm [] (impl_ReadAddr.h 0)) (runK impl_ReadAddr.x k 0 [] impl_ReadAddr.h 0 (sub impl_ReadAddr.c [1, 1, 1, 0, 1, 0, 0])) j (impl_ReadAddr.S0 p) (kBlk 0 (kSeq (runK impl_ReadAddr.x k 0 [] impl_ReadAddr.h 0 (sub impl_ReadAddr.c [1, 1, 1, 1])) (fin tt impl_ReadAddr.ps impl_ReadAddr.rs impl_ReadAddr.vs (.two (.int .i64) .bool))))
theorem impl_ReadAddr.D0_eq (k : Nat) : ∀ j, impl_ReadAddr.D0 k j = impl_ReadAddr.l0 k j := by
  intro j
  induction j with
  | zero => rfl
  | succ j ih =>
    show _ = impl_ReadAddr.s0 k (impl_ReadAddr.l0 k j)
    rw [← ih]
    funext p
    kernel_rfl
def impl_ReadAddr.f (k : Nat) (a0 : ByteArray) : Option (Int × Bool) :=
  (strings_Split.f k a0 (⟨#[46]⟩ : ByteArray)).bind fun r1 => impl_ReadAddr.l0 k k ((0 : Int), (r1.length : Int), (0 : Int), r1, r1)
def impl_ReadAddr.K : Ctr := ⟨impl_ReadAddr.ps, impl_ReadAddr.rs, false, .str, (.two (.int .i64) .bool), fun k x => impl_ReadAddr.f k x⟩
theorem impl_ReadAddr.eq (k : Nat) (x : (impl_ReadAddr.K.I).den) : func impl_ReadAddr.x impl_ReadAddr.h impl_ReadAddr.ps impl_ReadAddr.rs impl_ReadAddr.vs impl_ReadAddr.K.I impl_ReadAddr.K.O impl_ReadAddr.c k x = impl_ReadAddr.K.run k x := by
  show _ = impl_ReadAddr.f k x
  unfold impl_ReadAddr.f
  rw [← impl_ReadAddr.D0_eq k k]
  kernel_rfl
theorem impl_ReadAddr.ok : CtrOk Tryd.prog 11 impl_ReadAddr.K :=
  CtrOk.of (fn := Tryd.f11) (cd := impl_ReadAddr.c) (cx := impl_ReadAddr.x) (hs := impl_ReadAddr.h) (by kernel_rfl) (by kernel_rfl) (by kernel_rfl) (by kernel_rfl) tt_ok (envOk_cons strings_Split.ok (envOk_cons impl_ReadDecimal.ok (envOk_nil))) (by kernel_rfl) (by kernel_rfl) (by kernel_rfl) (by kernel_rfl) fun k x r h => (impl_ReadAddr.eq k x).trans h
end Go.Proofs.YtpheniajdbbphaaDoor.DI
