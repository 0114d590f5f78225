/- FnEnds: functions as plain Lean, in the machine of values. -/
import Derived.Test.YtpheniajdbbphaaVFnEnds0
namespace Go.Proofs.Ytpheniajdbbphaa.DI
open Go
set_option linter.unusedVariables false
/-! laws.big -/
noncomputable def laws_big.c : Code := bodyOf Try.f35
def laws_big.h : Nat → Hint := look ⟨[], [], []⟩ []
def laws_big.ps : List PK := [.one]
def laws_big.rs : List RK := [.one true]
def laws_big.vs : List ResultVar := [.tmp 2]
def laws_big.x : Cx := ⟨tt, look none []⟩
def laws_big.f (_k : Nat) (a0 : List (Int)) : Option (Bool) :=
  some (decide ((a0.length : Int) > (1048576 : Int)))
def laws_big.K : Ctr := ⟨laws_big.ps, laws_big.rs, false, (.sl 5 (.int .u8)), .bool, fun k x => laws_big.f k x⟩
theorem laws_big.eq (k : Nat) (x : (laws_big.K.I).den) : func laws_big.x laws_big.h laws_big.ps laws_big.rs laws_big.vs laws_big.K.I laws_big.K.O laws_big.c k x = laws_big.K.run k x := by
  show _ = laws_big.f k x
  kernel_rfl
theorem laws_big.ok : CtrOk Try.prog 35 laws_big.K :=
  CtrOk.of (fn := Try.f35) (cd := laws_big.c) (cx := laws_big.x) (hs := laws_big.h) (by kernel_rfl) (by kernel_rfl) (by kernel_rfl) (by kernel_rfl) tt_ok (envOk_nil) (by kernel_rfl) (by kernel_rfl) (by kernel_rfl) (by kernel_rfl) fun k x r h => (laws_big.eq k x).trans h
/-! spec.l01New -/
noncomputable def spec_l01New.c : Code := bodyOf Try.f87
def spec_l01New.h : Nat → Hint := look ⟨[], [], []⟩ [(0, ⟨[0, 3, 4], [], []⟩)]
def spec_l01New.ps : List PK := [.one]
def spec_l01New.rs : List RK := [.ptr 127 3 false]
def spec_l01New.vs : List ResultVar := [.tmp 2]
def spec_l01New.x : Cx := ⟨tt, look none []⟩
def spec_l01New.s0 (_k : Nat) (rec0 : (Int × Int × (List (Int))) → Option ((List (Int)) × Int × Int)) (p : (Int × Int × (List (Int)))) : Option ((List (Int)) × Int × Int) :=
  (bif (decide (p.2.1 < (p.2.2.length : Int))) then (bif (decide (p.2.1 < (4000 : Int))) then (bif ((decide ((0 : Int) ≤ p.2.1)) && (decide (p.2.1 < (p.2.2.length : Int)))) then (p.2.2[p.2.1.toNat]?).bind fun x1 => rec0 ((IntKind.i64.wrap (((BitVec.ofInt IntKind.i64.bits (IntKind.i64.wrap ((IntKind.i64.wrap ((IntKind.i64.wrap (p.1 * (131 : Int))) + (IntKind.i64.wrap x1))) + (7 : Int)))) &&& (BitVec.ofInt IntKind.i64.bits (1073741823 : Int))).toNat : Int)), (IntKind.i64.wrap (p.2.1 + (1 : Int))), p.2.2) else none) else some (p.2.2, (0 : Int), p.1)) else some (p.2.2, (0 : Int), p.1))
def spec_l01New.l0 (k : Nat) : Nat → (Int × Int × (List (Int))) → Option ((List (Int)) × Int × Int)
  | 0 => fun _ => none
  | j + 1 => spec_l01New.s0 k (spec_l01New.l0 k j)
def spec_l01New.S0 (p : (Int × Int × (List (Int)))) : DS := ⟨tl [(0, .at (.whole 0)), (3, .at (.int .i64 p.1)), (4, .at (.int .i64 p.2.1))], lookO [(0, .row 5 (.int .u8) false p.2.2)]⟩
noncomputable def spec_l01New.D0 (k : Nat) (j : Nat) (p : (Int × Int × (List (Int)))) : Option ((List (Int)) × Int × Int) := loopK (norm [0] (spec_l01New.h 0)) (runK spec_l01New.x k 0 [0] spec_l01New.h 0 (sub spec_l01New.c [1, 1, 0, 1, 0, 0])) j (spec_l01New.S0 p) (kBlk 0 (kSeq (runK spec_l01New.x k 0 [0] spec_l01New.h 0 (sub spec_l01New.c [1, 1, 1])) (fin tt spec_l01New.ps spec_l01New.rs spec_l01New.vs (.two (.sl 5 (.int .u8)) (.two (.int .i64) (.int .i64))))))
theorem spec_l01New.D0_eq (k : Nat) : ∀ j, spec_l01New.D0 k j = spec_l01New.l0 k j := by
  intro j
  induction j with
  | zero => rfl
  | succ j ih =>
    show _ = spec_l01New.s0 k (spec_l01New.l0 k j)
    rw [← ih]
    funext p
    kernel_rfl
def spec_l01New.f (k : Nat) (a0 : List (Int)) : Option ((List (Int)) × Int × Int) :=
  spec_l01New.l0 k k ((IntKind.i64.wrap ((36201 : Int) + (a0.length : Int))), (0 : Int), a0)
def spec_l01New.K : Ctr := ⟨spec_l01New.ps, spec_l01New.rs, true, (.sl 5 (.int .u8)), (.two (.sl 5 (.int .u8)) (.two (.int .i64) (.int .i64))), fun k x => spec_l01New.f k x⟩
theorem spec_l01New.eq (k : Nat) (x : (spec_l01New.K.I).den) : func spec_l01New.x spec_l01New.h spec_l01New.ps spec_l01New.rs spec_l01New.vs spec_l01New.K.I spec_l01New.K.O spec_l01New.c k x = spec_l01New.K.run k x := by
  show _ = spec_l01New.f k x
  unfold spec_l01New.f
  rw [← spec_l01New.D0_eq k k]
  kernel_rfl
theorem spec_l01New.ok : CtrOk Try.prog 87 spec_l01New.K :=
  CtrOk.of (fn := Try.f87) (cd := spec_l01New.c) (cx := spec_l01New.x) (hs := spec_l01New.h) (by kernel_rfl) (by kernel_rfl) (by kernel_rfl) (by kernel_rfl) tt_ok (envOk_nil) (by kernel_rfl) (by kernel_rfl) (by kernel_rfl) (by kernel_rfl) fun k x r h => (spec_l01New.eq k x).trans h
/-! spec.l01In -/
noncomputable def spec_l01In.c : Code := bodyOf Try.f52
def spec_l01In.h : Nat → Hint := look ⟨[], [], []⟩ []
def spec_l01In.ps : List PK := [.one, .one, .one]
def spec_l01In.rs : List RK := [.one true]
def spec_l01In.vs : List ResultVar := [.tmp 6]
def spec_l01In.x : Cx := ⟨tt, look none []⟩
def spec_l01In.f (_k : Nat) (a0 : Int) (a1 : Int) (a2 : Int) : Option (Bool) :=
  (bif (decide (a0 ≥ a1)) then some (decide (a0 ≤ a2)) else some false)
def spec_l01In.K : Ctr := ⟨spec_l01In.ps, spec_l01In.rs, false, (.two (.int .i64) (.two (.int .i64) (.int .i64))), .bool, fun k x => spec_l01In.f k x.1 x.2.1 x.2.2⟩
theorem spec_l01In.eq (k : Nat) (x : (spec_l01In.K.I).den) : func spec_l01In.x spec_l01In.h spec_l01In.ps spec_l01In.rs spec_l01In.vs spec_l01In.K.I spec_l01In.K.O spec_l01In.c k x = spec_l01In.K.run k x := by
  show _ = spec_l01In.f k x.1 x.2.1 x.2.2
  kernel_rfl
theorem spec_l01In.ok : CtrOk Try.prog 52 spec_l01In.K :=
  CtrOk.of (fn := Try.f52) (cd := spec_l01In.c) (cx := spec_l01In.x) (hs := spec_l01In.h) (by kernel_rfl) (by kernel_rfl) (by kernel_rfl) (by kernel_rfl) tt_ok (envOk_nil) (by kernel_rfl) (by kernel_rfl) (by kernel_rfl) (by kernel_rfl) fun k x r h => (spec_l01In.eq k x).trans h
/-! spec.ChanNew -/
noncomputable def spec_ChanNew.c : Code := bodyOf Try.f16
def spec_ChanNew.h : Nat → Hint := look ⟨[], [], []⟩ []
def spec_ChanNew.ps : List PK := [.one, .one]
def spec_ChanNew.rs : List RK := [.agg 9 true, .one true]
def spec_ChanNew.vs : List ResultVar := [.cell 4 36, .tmp 5]
def spec_ChanNew.x : Cx := ⟨tt, look none [(52, some spec_l01In.K)]⟩
def spec_ChanNew.f (k : Nat) (a0 : Int) (a1 : Int) : Option (Int × Int × Int × (List (ByteArray)) × (List (Int × ByteArray × Int × Int)) × Int × (List (Int × ByteArray)) × (List (Int)) × (List (ByteArray)) × Bool) :=
  (spec_l01In.f k a0 (1 : Int) (99 : Int)).bind fun r1 => (bif (!r1) then some ((0 : Int), (0 : Int), (0 : Int), ([] : List (ByteArray)), ([] : List (Int × ByteArray × Int × Int)), (0 : Int), ([] : List (Int × ByteArray)), ([] : List (Int)), ([] : List (ByteArray)), false) else (spec_l01In.f k a1 (1 : Int) (99 : Int)).bind fun r2 => (bif (!r2) then some ((0 : Int), (0 : Int), (0 : Int), ([] : List (ByteArray)), ([] : List (Int × ByteArray × Int × Int)), (0 : Int), ([] : List (Int × ByteArray)), ([] : List (Int)), ([] : List (ByteArray)), false) else some (a0, a1, (0 : Int), ([] : List (ByteArray)), ([] : List (Int × ByteArray × Int × Int)), (0 : Int), ([] : List (Int × ByteArray)), ([] : List (Int)), ([] : List (ByteArray)), true)))
def spec_ChanNew.K : Ctr := ⟨spec_ChanNew.ps, spec_ChanNew.rs, false, (.two (.int .i64) (.int .i64)), (.two (.int .i64) (.two (.int .i64) (.two (.int .i64) (.two (.sl 9 .str) (.two (.sl 92 (.two (.int .i64) (.two .str (.two (.int .i64) (.int .i64))))) (.two (.int .i64) (.two (.sl 87 (.two (.int .i64) .str)) (.two (.sl 3 (.int .i64)) (.two (.sl 9 .str) .bool))))))))), fun k x => spec_ChanNew.f k x.1 x.2⟩
theorem spec_ChanNew.eq (k : Nat) (x : (spec_ChanNew.K.I).den) : func spec_ChanNew.x spec_ChanNew.h spec_ChanNew.ps spec_ChanNew.rs spec_ChanNew.vs spec_ChanNew.K.I spec_ChanNew.K.O spec_ChanNew.c k x = spec_ChanNew.K.run k x := by
  show _ = spec_ChanNew.f k x.1 x.2
  kernel_rfl
theorem spec_ChanNew.ok : CtrOk Try.prog 16 spec_ChanNew.K :=
  CtrOk.of (fn := Try.f16) (cd := spec_ChanNew.c) (cx := spec_ChanNew.x) (hs := spec_ChanNew.h) (by kernel_rfl) (by kernel_rfl) (by kernel_rfl) (by kernel_rfl) tt_ok (envOk_cons spec_l01In.ok (envOk_nil)) (by kernel_rfl) (by kernel_rfl) (by kernel_rfl) (by kernel_rfl) fun k x r h => (spec_ChanNew.eq k x).trans h
/-! spec.l01Byte -/
noncomputable def spec_l01Byte.c : Code := bodyOf Try.f111
def spec_l01Byte.h : Nat → Hint := look ⟨[], [], []⟩ []
def spec_l01Byte.ps : List PK := [.box 127 3]
def spec_l01Byte.rs : List RK := [.one true]
def spec_l01Byte.vs : List ResultVar := [.tmp 2]
def spec_l01Byte.x : Cx := ⟨tt, look none []⟩
def spec_l01Byte.f (_k : Nat) (a0_0 : List (Int)) (a0_1 : Int) (a0_2 : Int) : Option (Int × (List (Int)) × Int × Int) :=
  (bif (decide (a0_1 < (a0_0.length : Int))) then (bif ((decide ((0 : Int) ≤ a0_1)) && (decide (a0_1 < (a0_0.length : Int)))) then (a0_0[a0_1.toNat]?).bind fun x1 => some ((IntKind.i64.wrap (((BitVec.ofInt IntKind.i64.bits (IntKind.i64.wrap ((IntKind.i64.wrap (((BitVec.ofInt IntKind.i64.bits (IntKind.i64.wrap (((BitVec.ofInt IntKind.i64.bits ((IntKind.i64.wrap ((IntKind.i64.wrap (a0_2 * (6364136223846793005 : Int))) + (1442695040888963407 : Int))).fdiv (2 ^ 33))) ^^^ (BitVec.ofInt IntKind.i64.bits ((IntKind.i64.wrap ((IntKind.i64.wrap (a0_2 * (6364136223846793005 : Int))) + (1442695040888963407 : Int))).fdiv (2 ^ 45)))).toNat : Int))) &&& (BitVec.ofInt IntKind.i64.bits (255 : Int))).toNat : Int)) + (IntKind.i64.wrap x1)))) &&& (BitVec.ofInt IntKind.i64.bits (255 : Int))).toNat : Int)), a0_0, (IntKind.i64.wrap (a0_1 + (1 : Int))), (IntKind.i64.wrap ((IntKind.i64.wrap (a0_2 * (6364136223846793005 : Int))) + (1442695040888963407 : Int)))) else none) else some ((IntKind.i64.wrap (((BitVec.ofInt IntKind.i64.bits (IntKind.i64.wrap (((BitVec.ofInt IntKind.i64.bits ((IntKind.i64.wrap ((IntKind.i64.wrap (a0_2 * (6364136223846793005 : Int))) + (1442695040888963407 : Int))).fdiv (2 ^ 33))) ^^^ (BitVec.ofInt IntKind.i64.bits ((IntKind.i64.wrap ((IntKind.i64.wrap (a0_2 * (6364136223846793005 : Int))) + (1442695040888963407 : Int))).fdiv (2 ^ 45)))).toNat : Int))) &&& (BitVec.ofInt IntKind.i64.bits (255 : Int))).toNat : Int)), a0_0, a0_1, (IntKind.i64.wrap ((IntKind.i64.wrap (a0_2 * (6364136223846793005 : Int))) + (1442695040888963407 : Int)))))
def spec_l01Byte.K : Ctr := ⟨spec_l01Byte.ps, spec_l01Byte.rs, true, (.two (.sl 5 (.int .u8)) (.two (.int .i64) (.int .i64))), (.two (.int .i64) (.two (.sl 5 (.int .u8)) (.two (.int .i64) (.int .i64)))), fun k x => spec_l01Byte.f k x.1 x.2.1 x.2.2⟩
theorem spec_l01Byte.eq (k : Nat) (x : (spec_l01Byte.K.I).den) : func spec_l01Byte.x spec_l01Byte.h spec_l01Byte.ps spec_l01Byte.rs spec_l01Byte.vs spec_l01Byte.K.I spec_l01Byte.K.O spec_l01Byte.c k x = spec_l01Byte.K.run k x := by
  show _ = spec_l01Byte.f k x.1 x.2.1 x.2.2
  kernel_rfl
theorem spec_l01Byte.ok : CtrOk Try.prog 111 spec_l01Byte.K :=
  CtrOk.of (fn := Try.f111) (cd := spec_l01Byte.c) (cx := spec_l01Byte.x) (hs := spec_l01Byte.h) (by kernel_rfl) (by kernel_rfl) (by kernel_rfl) (by kernel_rfl) tt_ok (envOk_nil) (by kernel_rfl) (by kernel_rfl) (by kernel_rfl) (by kernel_rfl) fun k x r h => (spec_l01Byte.eq k x).trans h
/-! spec.l01Below -/
noncomputable def spec_l01Below.c : Code := bodyOf Try.f90
def spec_l01Below.h : Nat → Hint := look ⟨[], [], []⟩ []
def spec_l01Below.ps : List PK := [.box 127 3, .one]
def spec_l01Below.rs : List RK := [.one true]
def spec_l01Below.vs : List ResultVar := [.tmp 4]
def spec_l01Below.x : Cx := ⟨tt, look none [(111, some spec_l01Byte.K)]⟩
def spec_l01Below.f (k : Nat) (a0_0 : List (Int)) (a0_1 : Int) (a0_2 : Int) (a1 : Int) : Option (Int × (List (Int)) × Int × Int) :=
  (bif (decide (a1 ≤ (0 : Int))) then some ((0 : Int), a0_0, a0_1, a0_2) else (bif (decide (a1 ≤ (256 : Int))) then (spec_l01Byte.f k a0_0 a0_1 a0_2).bind fun r1 => (bif (a1 == 0) then none else some ((r1.1.tmod a1), r1.2.1, r1.2.2.1, r1.2.2.2)) else (spec_l01Byte.f k a0_0 a0_1 a0_2).bind fun r2 => (spec_l01Byte.f k r2.2.1 r2.2.2.1 r2.2.2.2).bind fun r3 => (spec_l01Byte.f k r3.2.1 r3.2.2.1 r3.2.2.2).bind fun r4 => (spec_l01Byte.f k r4.2.1 r4.2.2.1 r4.2.2.2).bind fun r5 => (bif (a1 == 0) then none else some (((IntKind.i64.wrap ((IntKind.i64.wrap ((IntKind.i64.wrap ((IntKind.i64.wrap (r2.1 * (16777216 : Int))) + (IntKind.i64.wrap (r3.1 * (65536 : Int))))) + (IntKind.i64.wrap (r4.1 * (256 : Int))))) + r5.1)).tmod a1), r5.2.1, r5.2.2.1, r5.2.2.2))))
def spec_l01Below.K : Ctr := ⟨spec_l01Below.ps, spec_l01Below.rs, true, (.two (.sl 5 (.int .u8)) (.two (.int .i64) (.two (.int .i64) (.int .i64)))), (.two (.int .i64) (.two (.sl 5 (.int .u8)) (.two (.int .i64) (.int .i64)))), fun k x => spec_l01Below.f k x.1 x.2.1 x.2.2.1 x.2.2.2⟩
theorem spec_l01Below.eq (k : Nat) (x : (spec_l01Below.K.I).den) : func spec_l01Below.x spec_l01Below.h spec_l01Below.ps spec_l01Below.rs spec_l01Below.vs spec_l01Below.K.I spec_l01Below.K.O spec_l01Below.c k x = spec_l01Below.K.run k x := by
  show _ = spec_l01Below.f k x.1 x.2.1 x.2.2.1 x.2.2.2
  kernel_rfl
theorem spec_l01Below.ok : CtrOk Try.prog 90 spec_l01Below.K :=
  CtrOk.of (fn := Try.f90) (cd := spec_l01Below.c) (cx := spec_l01Below.x) (hs := spec_l01Below.h) (by kernel_rfl) (by kernel_rfl) (by kernel_rfl) (by kernel_rfl) tt_ok (envOk_cons spec_l01Byte.ok (envOk_nil)) (by kernel_rfl) (by kernel_rfl) (by kernel_rfl) (by kernel_rfl) fun k x r h => (spec_l01Below.eq k x).trans h
/-! spec.l01Text -/
noncomputable def spec_l01Text.c : Code := bodyOf Try.f110
def spec_l01Text.h : Nat → Hint := look ⟨[], [], []⟩ [(0, ⟨[0, 1, 5, 6], [], [(.b 0 0, 368, 5, (.int .u8)), (.t 5, 369, 5, (.int .u8))]⟩)]
def spec_l01Text.ps : List PK := [.box 127 3, .one]
def spec_l01Text.rs : List RK := [.one true]
def spec_l01Text.vs : List ResultVar := [.tmp 4]
def spec_l01Text.x : Cx := ⟨tt, look none [(111, some spec_l01Byte.K)]⟩
def spec_l01Text.s0 (k : Nat) (rec0 : (Int × Int × Int × Int × (List (Int)) × (List (Int)) × (List (Int))) → Option (ByteArray × (List (Int)) × Int × Int)) (p : (Int × Int × Int × Int × (List (Int)) × (List (Int)) × (List (Int)))) : Option (ByteArray × (List (Int)) × Int × Int) :=
  (bif (decide (p.2.1 < p.1)) then (spec_l01Byte.f k p.2.2.2.2.2.1 p.2.2.1 p.2.2.2.1).bind fun r1 => (bif decide ((p.2.2.2.2.2.2.length + [(IntKind.u8.wrap r1.1)].length) * 1 ≤ 140737488355328) then rec0 (p.1, (IntKind.i64.wrap (p.2.1 + (1 : Int))), r1.2.2.1, r1.2.2.2, p.2.2.2.2.1, r1.2.1, (p.2.2.2.2.2.2 ++ [(IntKind.u8.wrap r1.1)])) else none) else some ((strOfNums p.2.2.2.2.2.2), p.2.2.2.2.2.1, p.2.2.1, p.2.2.2.1))
def spec_l01Text.l0 (k : Nat) : Nat → (Int × Int × Int × Int × (List (Int)) × (List (Int)) × (List (Int))) → Option (ByteArray × (List (Int)) × Int × Int)
  | 0 => fun _ => none
  | j + 1 => spec_l01Text.s0 k (spec_l01Text.l0 k j)
def spec_l01Text.S0 (p : (Int × Int × Int × Int × (List (Int)) × (List (Int)) × (List (Int)))) : DS := ⟨tl [(0, .at (.bptr 0 0)), (1, .at (.int .i64 p.1)), (5, .at (.whole 369)), (6, .at (.int .i64 p.2.1))], lookO [(0, .box 127 [.whole 368, .int .i64 p.2.2.1, .int .i64 p.2.2.2.1]), (1, .row 5 (.int .u8) false p.2.2.2.2.1), (368, .row 5 (.int .u8) false p.2.2.2.2.2.1), (369, .row 5 (.int .u8) true p.2.2.2.2.2.2)]⟩
noncomputable def spec_l01Text.D0 (k : Nat) (j : Nat) (p : (Int × Int × Int × Int × (List (Int)) × (List (Int)) × (List (Int)))) : Option (ByteArray × (List (Int)) × Int × Int) := loopK (norm [0, 1] (spec_l01Text.h 0)) (runK spec_l01Text.x k 0 [0, 1] spec_l01Text.h 0 (sub spec_l01Text.c [1, 1, 1, 0, 1, 0, 0])) j (spec_l01Text.S0 p) (kBlk 0 (kSeq (runK spec_l01Text.x k 0 [0, 1] spec_l01Text.h 0 (sub spec_l01Text.c [1, 1, 1, 1])) (fin tt spec_l01Text.ps spec_l01Text.rs spec_l01Text.vs (.two .str (.two (.sl 5 (.int .u8)) (.two (.int .i64) (.int .i64)))))))
theorem spec_l01Text.D0_eq (k : Nat) : ∀ j, spec_l01Text.D0 k j = spec_l01Text.l0 k j := by
  intro j
  induction j with
  | zero => rfl
  | succ j ih =>
    show _ = spec_l01Text.s0 k (spec_l01Text.l0 k j)
    rw [← ih]
    funext p
    kernel_rfl
def spec_l01Text.f (k : Nat) (a0_0 : List (Int)) (a0_1 : Int) (a0_2 : Int) (a1 : Int) : Option (ByteArray × (List (Int)) × Int × Int) :=
  (bif (decide (a1 > (5000 : Int))) then spec_l01Text.l0 k k ((5000 : Int), (0 : Int), a0_1, a0_2, a0_0, a0_0, ([] : List (Int))) else spec_l01Text.l0 k k (a1, (0 : Int), a0_1, a0_2, a0_0, a0_0, ([] : List (Int))))
def spec_l01Text.K : Ctr := ⟨spec_l01Text.ps, spec_l01Text.rs, true, (.two (.sl 5 (.int .u8)) (.two (.int .i64) (.two (.int .i64) (.int .i64)))), (.two .str (.two (.sl 5 (.int .u8)) (.two (.int .i64) (.int .i64)))), fun k x => spec_l01Text.f k x.1 x.2.1 x.2.2.1 x.2.2.2⟩
theorem spec_l01Text.eq (k : Nat) (x : (spec_l01Text.K.I).den) : func spec_l01Text.x spec_l01Text.h spec_l01Text.ps spec_l01Text.rs spec_l01Text.vs spec_l01Text.K.I spec_l01Text.K.O spec_l01Text.c k x = spec_l01Text.K.run k x := by
  show _ = spec_l01Text.f k x.1 x.2.1 x.2.2.1 x.2.2.2
  unfold spec_l01Text.f
  rw [← spec_l01Text.D0_eq k k]
  kernel_rfl
theorem spec_l01Text.ok : CtrOk Try.prog 110 spec_l01Text.K :=
  CtrOk.of (fn := Try.f110) (cd := spec_l01Text.c) (cx := spec_l01Text.x) (hs := spec_l01Text.h) (by kernel_rfl) (by kernel_rfl) (by kernel_rfl) (by kernel_rfl) tt_ok (envOk_cons spec_l01Byte.ok (envOk_nil)) (by kernel_rfl) (by kernel_rfl) (by kernel_rfl) (by kernel_rfl) fun k x r h => (spec_l01Text.eq k x).trans h
/-! spec.l13Copy -/
noncomputable def spec_l13Copy.c : Code := bodyOf Try.f75
def spec_l13Copy.h : Nat → Hint := look ⟨[], [], []⟩ []
def spec_l13Copy.ps : List PK := [.agg 9]
def spec_l13Copy.rs : List RK := [.agg 9 true]
def spec_l13Copy.vs : List ResultVar := [.cell 2 36]
def spec_l13Copy.x : Cx := ⟨tt, look none []⟩
def spec_l13Copy.f (_k : Nat) (a0_0 : Int) (a0_1 : Int) (a0_2 : Int) (a0_3 : List (ByteArray)) (a0_4 : List (Int × ByteArray × Int × Int)) (a0_5 : Int) (a0_6 : List (Int × ByteArray)) (a0_7 : List (Int)) (a0_8 : List (ByteArray)) : Option (Int × Int × Int × (List (ByteArray)) × (List (Int × ByteArray × Int × Int)) × Int × (List (Int × ByteArray)) × (List (Int)) × (List (ByteArray))) :=
  (bif decide ((([] : List (ByteArray)).length + a0_3.length) * 16 ≤ 140737488355328) then (bif decide ((([] : List (Int × ByteArray × Int × Int)).length + a0_4.length) * 40 ≤ 140737488355328) then (bif decide ((([] : List (Int × ByteArray)).length + a0_6.length) * 24 ≤ 140737488355328) then (bif decide ((([] : List (Int)).length + a0_7.length) * 8 ≤ 140737488355328) then (bif decide ((([] : List (ByteArray)).length + a0_8.length) * 16 ≤ 140737488355328) then some (a0_0, a0_1, a0_2, (([] : List (ByteArray)) ++ a0_3), (([] : List (Int × ByteArray × Int × Int)) ++ a0_4), a0_5, (([] : List (Int × ByteArray)) ++ a0_6), (([] : List (Int)) ++ a0_7), (([] : List (ByteArray)) ++ a0_8)) else none) else none) else none) else none) else none)
def spec_l13Copy.K : Ctr := ⟨spec_l13Copy.ps, spec_l13Copy.rs, false, (.two (.int .i64) (.two (.int .i64) (.two (.int .i64) (.two (.sl 9 .str) (.two (.sl 92 (.two (.int .i64) (.two .str (.two (.int .i64) (.int .i64))))) (.two (.int .i64) (.two (.sl 87 (.two (.int .i64) .str)) (.two (.sl 3 (.int .i64)) (.sl 9 .str))))))))), (.two (.int .i64) (.two (.int .i64) (.two (.int .i64) (.two (.sl 9 .str) (.two (.sl 92 (.two (.int .i64) (.two .str (.two (.int .i64) (.int .i64))))) (.two (.int .i64) (.two (.sl 87 (.two (.int .i64) .str)) (.two (.sl 3 (.int .i64)) (.sl 9 .str))))))))), fun k x => spec_l13Copy.f k x.1 x.2.1 x.2.2.1 x.2.2.2.1 x.2.2.2.2.1 x.2.2.2.2.2.1 x.2.2.2.2.2.2.1 x.2.2.2.2.2.2.2.1 x.2.2.2.2.2.2.2.2⟩
theorem spec_l13Copy.eq (k : Nat) (x : (spec_l13Copy.K.I).den) : func spec_l13Copy.x spec_l13Copy.h spec_l13Copy.ps spec_l13Copy.rs spec_l13Copy.vs spec_l13Copy.K.I spec_l13Copy.K.O spec_l13Copy.c k x = spec_l13Copy.K.run k x := by
  show _ = spec_l13Copy.f k x.1 x.2.1 x.2.2.1 x.2.2.2.1 x.2.2.2.2.1 x.2.2.2.2.2.1 x.2.2.2.2.2.2.1 x.2.2.2.2.2.2.2.1 x.2.2.2.2.2.2.2.2
  kernel_rfl
theorem spec_l13Copy.ok : CtrOk Try.prog 75 spec_l13Copy.K :=
  CtrOk.of (fn := Try.f75) (cd := spec_l13Copy.c) (cx := spec_l13Copy.x) (hs := spec_l13Copy.h) (by kernel_rfl) (by kernel_rfl) (by kernel_rfl) (by kernel_rfl) tt_ok (envOk_nil) (by kernel_rfl) (by kernel_rfl) (by kernel_rfl) (by kernel_rfl) fun k x r h => (spec_l13Copy.eq k x).trans h
/-! spec.l13Texts -/
noncomputable def spec_l13Texts.c : Code := bodyOf Try.f68
def spec_l13Texts.h : Nat → Hint := look ⟨[], [], []⟩ [(0, ⟨[0, 3], [], []⟩)]
def spec_l13Texts.ps : List PK := [.one]
def spec_l13Texts.rs : List RK := [.one true]
def spec_l13Texts.vs : List ResultVar := [.tmp 2]
def spec_l13Texts.x : Cx := ⟨tt, look none []⟩
def spec_l13Texts.s0 (_k : Nat) (rec0 : (Int × (List (ByteArray))) → Option (Bool)) (p : (Int × (List (ByteArray)))) : Option (Bool) :=
  (bif (decide (p.1 < (p.2.length : Int))) then (bif ((decide ((0 : Int) ≤ p.1)) && (decide (p.1 < (p.2.length : Int)))) then (p.2[p.1.toNat]?).bind fun x1 => (bif (decide ((x1.size : Int) > (120 : Int))) then some false else rec0 ((IntKind.i64.wrap (p.1 + (1 : Int))), p.2)) else none) else some true)
def spec_l13Texts.l0 (k : Nat) : Nat → (Int × (List (ByteArray))) → Option (Bool)
  | 0 => fun _ => none
  | j + 1 => spec_l13Texts.s0 k (spec_l13Texts.l0 k j)
def spec_l13Texts.S0 (p : (Int × (List (ByteArray)))) : DS := ⟨tl [(0, .at (.whole 0)), (3, .at (.int .i64 p.1))], lookO [(0, .row 9 .str false p.2)]⟩
noncomputable def spec_l13Texts.D0 (k : Nat) (j : Nat) (p : (Int × (List (ByteArray)))) : Option (Bool) := loopK (norm [0] (spec_l13Texts.h 0)) (runK spec_l13Texts.x k 0 [0] spec_l13Texts.h 0 (sub spec_l13Texts.c [1, 0, 1, 0, 0])) j (spec_l13Texts.S0 p) (kBlk 0 (kSeq (runK spec_l13Texts.x k 0 [0] spec_l13Texts.h 0 (sub spec_l13Texts.c [1, 1])) (fin tt spec_l13Texts.ps spec_l13Texts.rs spec_l13Texts.vs .bool)))
theorem spec_l13Texts.D0_eq (k : Nat) : ∀ j, spec_l13Texts.D0 k j = spec_l13Texts.l0 k j := by
  intro j
  induction j with
  | zero => rfl
  | succ j ih =>
    show _ = spec_l13Texts.s0 k (spec_l13Texts.l0 k j)
    rw [← ih]
    funext p
    kernel_rfl
def spec_l13Texts.f (k : Nat) (a0 : List (ByteArray)) : Option (Bool) :=
  spec_l13Texts.l0 k k ((0 : Int), a0)
def spec_l13Texts.K : Ctr := ⟨spec_l13Texts.ps, spec_l13Texts.rs, false, (.sl 9 .str), .bool, fun k x => spec_l13Texts.f k x⟩
theorem spec_l13Texts.eq (k : Nat) (x : (spec_l13Texts.K.I).den) : func spec_l13Texts.x spec_l13Texts.h spec_l13Texts.ps spec_l13Texts.rs spec_l13Texts.vs spec_l13Texts.K.I spec_l13Texts.K.O spec_l13Texts.c k x = spec_l13Texts.K.run k x := by
  show _ = spec_l13Texts.f k x
  unfold spec_l13Texts.f
  rw [← spec_l13Texts.D0_eq k k]
  kernel_rfl
theorem spec_l13Texts.ok : CtrOk Try.prog 68 spec_l13Texts.K :=
  CtrOk.of (fn := Try.f68) (cd := spec_l13Texts.c) (cx := spec_l13Texts.x) (hs := spec_l13Texts.h) (by kernel_rfl) (by kernel_rfl) (by kernel_rfl) (by kernel_rfl) tt_ok (envOk_nil) (by kernel_rfl) (by kernel_rfl) (by kernel_rfl) (by kernel_rfl) fun k x r h => (spec_l13Texts.eq k x).trans h
/-! spec.l13Sent -/
noncomputable def spec_l13Sent.c : Code := bodyOf Try.f69
def spec_l13Sent.h : Nat → Hint := look ⟨[], [], []⟩ [(0, ⟨[1, 3], [16], []⟩)]
def spec_l13Sent.ps : List PK := [.agg 9]
def spec_l13Sent.rs : List RK := [.one true]
def spec_l13Sent.vs : List ResultVar := [.tmp 2]
def spec_l13Sent.x : Cx := ⟨tt, look none [(52, some spec_l01In.K)]⟩
def spec_l13Sent.s0 (k : Nat) (rec0 : (Int × (List (ByteArray)) × (List (Int × ByteArray × Int × Int)) × (List (Int × ByteArray)) × (List (Int)) × (List (ByteArray)) × Int × Int × Int × Int) → Option (Bool)) (p : (Int × (List (ByteArray)) × (List (Int × ByteArray × Int × Int)) × (List (Int × ByteArray)) × (List (Int)) × (List (ByteArray)) × Int × Int × Int × Int)) : Option (Bool) :=
  (bif (decide (p.1 < (p.2.2.1.length : Int))) then (bif ((decide ((0 : Int) ≤ p.1)) && (decide (p.1 < (p.2.2.1.length : Int)))) then (p.2.2.1[p.1.toNat]?).bind fun x1 => (spec_l01In.f k x1.1 (1 : Int) p.2.2.2.2.2.2.2.2.1).bind fun r2 => (bif (!r2) then some false else (bif (decide (p.1 > (0 : Int))) then (bif ((decide ((0 : Int) ≤ (IntKind.i64.wrap (p.1 - (1 : Int))))) && (decide ((IntKind.i64.wrap (p.1 - (1 : Int))) < (p.2.2.1.length : Int)))) then (p.2.2.1[(IntKind.i64.wrap (p.1 - (1 : Int))).toNat]?).bind fun x3 => (bif (decide (x3.1 ≥ x1.1)) then some false else (spec_l01In.f k x1.2.2.1 (0 : Int) (1000000000 : Int)).bind fun r4 => (bif (!r4) then some false else (spec_l01In.f k x1.2.2.2 (1 : Int) (8 : Int)).bind fun r5 => (bif (!r5) then some false else (bif (decide ((x1.2.1.size : Int) > (120 : Int))) then some false else rec0 ((IntKind.i64.wrap (p.1 + (1 : Int))), p.2.1, p.2.2.1, p.2.2.2.1, p.2.2.2.2.1, p.2.2.2.2.2.1, p.2.2.2.2.2.2.1, p.2.2.2.2.2.2.2.1, p.2.2.2.2.2.2.2.2.1, p.2.2.2.2.2.2.2.2.2))))) else none) else (spec_l01In.f k x1.2.2.1 (0 : Int) (1000000000 : Int)).bind fun r6 => (bif (!r6) then some false else (spec_l01In.f k x1.2.2.2 (1 : Int) (8 : Int)).bind fun r7 => (bif (!r7) then some false else (bif (decide ((x1.2.1.size : Int) > (120 : Int))) then some false else rec0 ((IntKind.i64.wrap (p.1 + (1 : Int))), p.2.1, p.2.2.1, p.2.2.2.1, p.2.2.2.2.1, p.2.2.2.2.2.1, p.2.2.2.2.2.2.1, p.2.2.2.2.2.2.2.1, p.2.2.2.2.2.2.2.2.1, p.2.2.2.2.2.2.2.2.2)))))) else none) else some (decide ((p.2.2.1.length : Int) ≤ (4 : Int))))
def spec_l13Sent.l0 (k : Nat) : Nat → (Int × (List (ByteArray)) × (List (Int × ByteArray × Int × Int)) × (List (Int × ByteArray)) × (List (Int)) × (List (ByteArray)) × Int × Int × Int × Int) → Option (Bool)
  | 0 => fun _ => none
  | j + 1 => spec_l13Sent.s0 k (spec_l13Sent.l0 k j)
def spec_l13Sent.S0 (p : (Int × (List (ByteArray)) × (List (Int × ByteArray × Int × Int)) × (List (Int × ByteArray)) × (List (Int)) × (List (ByteArray)) × Int × Int × Int × Int)) : DS := ⟨tl [(1, .at (.bptr 16 0)), (3, .at (.int .i64 p.1))], lookO [(3, .row 9 .str false p.2.1), (4, .row 92 (.two (.int .i64) (.two .str (.two (.int .i64) (.int .i64)))) false p.2.2.1), (6, .row 87 (.two (.int .i64) .str) false p.2.2.2.1), (7, .row 3 (.int .i64) false p.2.2.2.2.1), (8, .row 9 .str false p.2.2.2.2.2.1), (16, .box 36 [.int .i64 p.2.2.2.2.2.2.1, .int .i64 p.2.2.2.2.2.2.2.1, .int .i64 p.2.2.2.2.2.2.2.2.1, .whole 3, .whole 4, .int .i64 p.2.2.2.2.2.2.2.2.2, .whole 6, .whole 7, .whole 8])]⟩
noncomputable def spec_l13Sent.D0 (k : Nat) (j : Nat) (p : (Int × (List (ByteArray)) × (List (Int × ByteArray × Int × Int)) × (List (Int × ByteArray)) × (List (Int)) × (List (ByteArray)) × Int × Int × Int × Int)) : Option (Bool) := loopK (norm [3, 4, 6, 7, 8] (spec_l13Sent.h 0)) (runK spec_l13Sent.x k 0 [3, 4, 6, 7, 8] spec_l13Sent.h 0 (sub spec_l13Sent.c [1, 0, 1, 0, 0])) j (spec_l13Sent.S0 p) (kBlk 0 (kSeq (runK spec_l13Sent.x k 0 [3, 4, 6, 7, 8] spec_l13Sent.h 0 (sub spec_l13Sent.c [1, 1])) (fin tt spec_l13Sent.ps spec_l13Sent.rs spec_l13Sent.vs .bool)))
theorem spec_l13Sent.D0_eq (k : Nat) : ∀ j, spec_l13Sent.D0 k j = spec_l13Sent.l0 k j := by
  intro j
  induction j with
  | zero => rfl
  | succ j ih =>
    show _ = spec_l13Sent.s0 k (spec_l13Sent.l0 k j)
    rw [← ih]
    funext p
    kernel_rfl
def spec_l13Sent.f (k : Nat) (a0_0 : Int) (a0_1 : Int) (a0_2 : Int) (a0_3 : List (ByteArray)) (a0_4 : List (Int × ByteArray × Int × Int)) (a0_5 : Int) (a0_6 : List (Int × ByteArray)) (a0_7 : List (Int)) (a0_8 : List (ByteArray)) : Option (Bool) :=
  spec_l13Sent.l0 k k ((0 : Int), a0_3, a0_4, a0_6, a0_7, a0_8, a0_0, a0_1, a0_2, a0_5)
def spec_l13Sent.K : Ctr := ⟨spec_l13Sent.ps, spec_l13Sent.rs, false, (.two (.int .i64) (.two (.int .i64) (.two (.int .i64) (.two (.sl 9 .str) (.two (.sl 92 (.two (.int .i64) (.two .str (.two (.int .i64) (.int .i64))))) (.two (.int .i64) (.two (.sl 87 (.two (.int .i64) .str)) (.two (.sl 3 (.int .i64)) (.sl 9 .str))))))))), .bool, fun k x => spec_l13Sent.f k x.1 x.2.1 x.2.2.1 x.2.2.2.1 x.2.2.2.2.1 x.2.2.2.2.2.1 x.2.2.2.2.2.2.1 x.2.2.2.2.2.2.2.1 x.2.2.2.2.2.2.2.2⟩
theorem spec_l13Sent.eq (k : Nat) (x : (spec_l13Sent.K.I).den) : func spec_l13Sent.x spec_l13Sent.h spec_l13Sent.ps spec_l13Sent.rs spec_l13Sent.vs spec_l13Sent.K.I spec_l13Sent.K.O spec_l13Sent.c k x = spec_l13Sent.K.run k x := by
  show _ = spec_l13Sent.f k x.1 x.2.1 x.2.2.1 x.2.2.2.1 x.2.2.2.2.1 x.2.2.2.2.2.1 x.2.2.2.2.2.2.1 x.2.2.2.2.2.2.2.1 x.2.2.2.2.2.2.2.2
  unfold spec_l13Sent.f
  rw [← spec_l13Sent.D0_eq k k]
  kernel_rfl
theorem spec_l13Sent.ok : CtrOk Try.prog 69 spec_l13Sent.K :=
  CtrOk.of (fn := Try.f69) (cd := spec_l13Sent.c) (cx := spec_l13Sent.x) (hs := spec_l13Sent.h) (by kernel_rfl) (by kernel_rfl) (by kernel_rfl) (by kernel_rfl) tt_ok (envOk_cons spec_l01In.ok (envOk_nil)) (by kernel_rfl) (by kernel_rfl) (by kernel_rfl) (by kernel_rfl) fun k x r h => (spec_l13Sent.eq k x).trans h
/-! spec.ChanOk -/
noncomputable def spec_ChanOk.c : Code := bodyOf Try.f22
def spec_ChanOk.h : Nat → Hint := look ⟨[], [], []⟩ [(0, ⟨[1, 3], [16], []⟩), (2, ⟨[1, 4], [16], []⟩)]
def spec_ChanOk.ps : List PK := [.agg 9]
def spec_ChanOk.rs : List RK := [.one true]
def spec_ChanOk.vs : List ResultVar := [.tmp 2]
def spec_ChanOk.x : Cx := ⟨tt, look none [(52, some spec_l01In.K), (68, some spec_l13Texts.K), (69, some spec_l13Sent.K)]⟩
def spec_ChanOk.s2 (k : Nat) (rec2 : (Int × (List (ByteArray)) × (List (Int × ByteArray × Int × Int)) × (List (Int × ByteArray)) × (List (Int)) × (List (ByteArray)) × Int × Int × Int × Int) → Option (Bool)) (p : (Int × (List (ByteArray)) × (List (Int × ByteArray × Int × Int)) × (List (Int × ByteArray)) × (List (Int)) × (List (ByteArray)) × Int × Int × Int × Int)) : Option (Bool) :=
  (bif (decide (p.1 < (p.2.2.2.2.1.length : Int))) then (bif ((decide ((0 : Int) ≤ p.1)) && (decide (p.1 < (p.2.2.2.2.1.length : Int)))) then (p.2.2.2.2.1[p.1.toNat]?).bind fun x14 => (spec_l01In.f k x14 (1 : Int) (IntKind.i64.wrap (p.2.2.2.2.2.2.2.2.2 + (4 : Int)))).bind fun r15 => (bif (!r15) then some false else rec2 ((IntKind.i64.wrap (p.1 + (1 : Int))), p.2.1, p.2.2.1, p.2.2.2.1, p.2.2.2.2.1, p.2.2.2.2.2.1, p.2.2.2.2.2.2.1, p.2.2.2.2.2.2.2.1, p.2.2.2.2.2.2.2.2.1, p.2.2.2.2.2.2.2.2.2)) else none) else some true)
def spec_ChanOk.l2 (k : Nat) : Nat → (Int × (List (ByteArray)) × (List (Int × ByteArray × Int × Int)) × (List (Int × ByteArray)) × (List (Int)) × (List (ByteArray)) × Int × Int × Int × Int) → Option (Bool)
  | 0 => fun _ => none
  | j + 1 => spec_ChanOk.s2 k (spec_ChanOk.l2 k j)
def spec_ChanOk.s0 (k : Nat) (rec0 : (Int × (List (ByteArray)) × (List (Int × ByteArray × Int × Int)) × (List (Int × ByteArray)) × (List (Int)) × (List (ByteArray)) × Int × Int × Int × Int) → Option (Bool)) (i2 : (Int × (List (ByteArray)) × (List (Int × ByteArray × Int × Int)) × (List (Int × ByteArray)) × (List (Int)) × (List (ByteArray)) × Int × Int × Int × Int) → Option (Bool)) (p : (Int × (List (ByteArray)) × (List (Int × ByteArray × Int × Int)) × (List (Int × ByteArray)) × (List (Int)) × (List (ByteArray)) × Int × Int × Int × Int)) : Option (Bool) :=
  (bif (decide (p.1 < (p.2.2.2.1.length : Int))) then (bif ((decide ((0 : Int) ≤ p.1)) && (decide (p.1 < (p.2.2.2.1.length : Int)))) then (p.2.2.2.1[p.1.toNat]?).bind fun x8 => (spec_l01In.f k x8.1 (IntKind.i64.wrap (p.2.2.2.2.2.2.2.2.2 + (2 : Int))) (IntKind.i64.wrap (p.2.2.2.2.2.2.2.2.2 + (4 : Int)))).bind fun r9 => (bif (!r9) then some false else (bif (decide (p.1 > (0 : Int))) then (bif ((decide ((0 : Int) ≤ (IntKind.i64.wrap (p.1 - (1 : Int))))) && (decide ((IntKind.i64.wrap (p.1 - (1 : Int))) < (p.2.2.2.1.length : Int)))) then (p.2.2.2.1[(IntKind.i64.wrap (p.1 - (1 : Int))).toNat]?).bind fun x10 => (bif ((decide ((0 : Int) ≤ p.1)) && (decide (p.1 < (p.2.2.2.1.length : Int)))) then (p.2.2.2.1[p.1.toNat]?).bind fun x11 => (bif (decide (x10.1 ≥ x11.1)) then some false else (bif ((decide ((0 : Int) ≤ p.1)) && (decide (p.1 < (p.2.2.2.1.length : Int)))) then (p.2.2.2.1[p.1.toNat]?).bind fun x12 => (bif (decide ((x12.2.size : Int) > (120 : Int))) then some false else rec0 ((IntKind.i64.wrap (p.1 + (1 : Int))), p.2.1, p.2.2.1, p.2.2.2.1, p.2.2.2.2.1, p.2.2.2.2.2.1, p.2.2.2.2.2.2.1, p.2.2.2.2.2.2.2.1, p.2.2.2.2.2.2.2.2.1, p.2.2.2.2.2.2.2.2.2)) else none)) else none) else none) else (bif ((decide ((0 : Int) ≤ p.1)) && (decide (p.1 < (p.2.2.2.1.length : Int)))) then (p.2.2.2.1[p.1.toNat]?).bind fun x13 => (bif (decide ((x13.2.size : Int) > (120 : Int))) then some false else rec0 ((IntKind.i64.wrap (p.1 + (1 : Int))), p.2.1, p.2.2.1, p.2.2.2.1, p.2.2.2.2.1, p.2.2.2.2.2.1, p.2.2.2.2.2.2.1, p.2.2.2.2.2.2.2.1, p.2.2.2.2.2.2.2.2.1, p.2.2.2.2.2.2.2.2.2)) else none))) else none) else i2 ((0 : Int), p.2.1, p.2.2.1, p.2.2.2.1, p.2.2.2.2.1, p.2.2.2.2.2.1, p.2.2.2.2.2.2.1, p.2.2.2.2.2.2.2.1, p.2.2.2.2.2.2.2.2.1, p.2.2.2.2.2.2.2.2.2))
def spec_ChanOk.l0 (k : Nat) : Nat → (Int × (List (ByteArray)) × (List (Int × ByteArray × Int × Int)) × (List (Int × ByteArray)) × (List (Int)) × (List (ByteArray)) × Int × Int × Int × Int) → Option (Bool)
  | 0 => fun _ => none
  | j + 1 => spec_ChanOk.s0 k (spec_ChanOk.l0 k j) (spec_ChanOk.l2 k k)
def spec_ChanOk.S2 (p : (Int × (List (ByteArray)) × (List (Int × ByteArray × Int × Int)) × (List (Int × ByteArray)) × (List (Int)) × (List (ByteArray)) × Int × Int × Int × Int)) : DS := ⟨tl [(1, .at (.bptr 16 0)), (4, .at (.int .i64 p.1))], lookO [(3, .row 9 .str false p.2.1), (4, .row 92 (.two (.int .i64) (.two .str (.two (.int .i64) (.int .i64)))) false p.2.2.1), (6, .row 87 (.two (.int .i64) .str) false p.2.2.2.1), (7, .row 3 (.int .i64) false p.2.2.2.2.1), (8, .row 9 .str false p.2.2.2.2.2.1), (16, .box 36 [.int .i64 p.2.2.2.2.2.2.1, .int .i64 p.2.2.2.2.2.2.2.1, .int .i64 p.2.2.2.2.2.2.2.2.1, .whole 3, .whole 4, .int .i64 p.2.2.2.2.2.2.2.2.2, .whole 6, .whole 7, .whole 8])]⟩
def spec_ChanOk.S0 (p : (Int × (List (ByteArray)) × (List (Int × ByteArray × Int × Int)) × (List (Int × ByteArray)) × (List (Int)) × (List (ByteArray)) × Int × Int × Int × Int)) : DS := ⟨tl [(1, .at (.bptr 16 0)), (3, .at (.int .i64 p.1))], lookO [(3, .row 9 .str false p.2.1), (4, .row 92 (.two (.int .i64) (.two .str (.two (.int .i64) (.int .i64)))) false p.2.2.1), (6, .row 87 (.two (.int .i64) .str) false p.2.2.2.1), (7, .row 3 (.int .i64) false p.2.2.2.2.1), (8, .row 9 .str false p.2.2.2.2.2.1), (16, .box 36 [.int .i64 p.2.2.2.2.2.2.1, .int .i64 p.2.2.2.2.2.2.2.1, .int .i64 p.2.2.2.2.2.2.2.2.1, .whole 3, .whole 4, .int .i64 p.2.2.2.2.2.2.2.2.2, .whole 6, .whole 7, .whole 8])]⟩
noncomputable def spec_ChanOk.D2 (k : Nat) (j : Nat) (p : (Int × (List (ByteArray)) × (List (Int × ByteArray × Int × Int)) × (List (Int × ByteArray)) × (List (Int)) × (List (ByteArray)) × Int × Int × Int × Int)) : Option (Bool) := loopK (norm [3, 4, 6, 7, 8] (spec_ChanOk.h 2)) (runK spec_ChanOk.x k 0 [3, 4, 6, 7, 8] spec_ChanOk.h 2 (sub spec_ChanOk.c [1, 1, 1, 0, 1, 0, 0])) j (spec_ChanOk.S2 p) (kBlk 2 (kSeq (runK spec_ChanOk.x k 0 [3, 4, 6, 7, 8] spec_ChanOk.h 0 (sub spec_ChanOk.c [1, 1, 1, 1])) (fin tt spec_ChanOk.ps spec_ChanOk.rs spec_ChanOk.vs .bool)))
noncomputable def spec_ChanOk.D0 (k : Nat) (j : Nat) (p : (Int × (List (ByteArray)) × (List (Int × ByteArray × Int × Int)) × (List (Int × ByteArray)) × (List (Int)) × (List (ByteArray)) × Int × Int × Int × Int)) : Option (Bool) := loopK (norm [3, 4, 6, 7, 8] (spec_ChanOk.h 0)) (runK spec_ChanOk.x k 0 [3, 4, 6, 7, 8] spec_ChanOk.h 0 (sub spec_ChanOk.c [1, 1, 0, 1, 0, 0])) j (spec_ChanOk.S0 p) (kBlk 0 (kSeq (runK spec_ChanOk.x k 0 [3, 4, 6, 7, 8] spec_ChanOk.h 0 (sub spec_ChanOk.c [1, 1, 1])) (fin tt spec_ChanOk.ps spec_ChanOk.rs spec_ChanOk.vs .bool)))
theorem spec_ChanOk.D2_eq (k : Nat) : ∀ j, spec_ChanOk.D2 k j = spec_ChanOk.l2 k j := by
  intro j
  induction j with
  | zero => rfl
  | succ j ih =>
    show _ = spec_ChanOk.s2 k (spec_ChanOk.l2 k j)
    rw [← ih]
    funext p
    kernel_rfl
theorem spec_ChanOk.D0_eq (k : Nat) : ∀ j, spec_ChanOk.D0 k j = spec_ChanOk.l0 k j := by
  intro j
  induction j with
  | zero => rfl
  | succ j ih =>
    show _ = spec_ChanOk.s0 k (spec_ChanOk.l0 k j) (spec_ChanOk.l2 k k)
    rw [← ih, ← spec_ChanOk.D2_eq k k]
    funext p
    kernel_rfl
def spec_ChanOk.f (k : Nat) (a0_0 : Int) (a0_1 : Int) (a0_2 : Int) (a0_3 : List (ByteArray)) (a0_4 : List (Int × ByteArray × Int × Int)) (a0_5 : Int) (a0_6 : List (Int × ByteArray)) (a0_7 : List (Int)) (a0_8 : List (ByteArray)) : Option (Bool) :=
  (spec_l01In.f k a0_0 (1 : Int) (99 : Int)).bind fun r1 => (bif (!r1) then some false else (spec_l01In.f k a0_1 (1 : Int) (99 : Int)).bind fun r2 => (bif (!r2) then some false else (spec_l01In.f k a0_2 (0 : Int) (1000 : Int)).bind fun r3 => (bif (!r3) then some false else (bif (decide ((a0_3.length : Int) > (30 : Int))) then some false else (spec_l13Texts.f k a0_3).bind fun r4 => (bif (!r4) then some false else (spec_l13Sent.f k a0_0 a0_1 a0_2 a0_3 a0_4 a0_5 a0_6 a0_7 a0_8).bind fun r5 => (bif (!r5) then some false else (spec_l01In.f k a0_5 (0 : Int) (1000 : Int)).bind fun r6 => (bif (!r6) then some false else (bif ((a0_8.length : Int) != a0_5) then some false else (spec_l13Texts.f k a0_8).bind fun r7 => (bif (!r7) then some false else (bif (decide ((a0_7.length : Int) > (4 : Int))) then some false else spec_ChanOk.l0 k k ((0 : Int), a0_3, a0_4, a0_6, a0_7, a0_8, a0_0, a0_1, a0_2, a0_5)))))))))))
def spec_ChanOk.K : Ctr := ⟨spec_ChanOk.ps, spec_ChanOk.rs, false, (.two (.int .i64) (.two (.int .i64) (.two (.int .i64) (.two (.sl 9 .str) (.two (.sl 92 (.two (.int .i64) (.two .str (.two (.int .i64) (.int .i64))))) (.two (.int .i64) (.two (.sl 87 (.two (.int .i64) .str)) (.two (.sl 3 (.int .i64)) (.sl 9 .str))))))))), .bool, fun k x => spec_ChanOk.f k x.1 x.2.1 x.2.2.1 x.2.2.2.1 x.2.2.2.2.1 x.2.2.2.2.2.1 x.2.2.2.2.2.2.1 x.2.2.2.2.2.2.2.1 x.2.2.2.2.2.2.2.2⟩
theorem spec_ChanOk.eq (k : Nat) (x : (spec_ChanOk.K.I).den) : func spec_ChanOk.x spec_ChanOk.h spec_ChanOk.ps spec_ChanOk.rs spec_ChanOk.vs spec_ChanOk.K.I spec_ChanOk.K.O spec_ChanOk.c k x = spec_ChanOk.K.run k x := by
  show _ = spec_ChanOk.f k x.1 x.2.1 x.2.2.1 x.2.2.2.1 x.2.2.2.2.1 x.2.2.2.2.2.1 x.2.2.2.2.2.2.1 x.2.2.2.2.2.2.2.1 x.2.2.2.2.2.2.2.2
  unfold spec_ChanOk.f
  rw [← spec_ChanOk.D0_eq k k]
  kernel_rfl
theorem spec_ChanOk.ok : CtrOk Try.prog 22 spec_ChanOk.K :=
  CtrOk.of (fn := Try.f22) (cd := spec_ChanOk.c) (cx := spec_ChanOk.x) (hs := spec_ChanOk.h) (by kernel_rfl) (by kernel_rfl) (by kernel_rfl) (by kernel_rfl) tt_ok (envOk_cons spec_l01In.ok (envOk_cons spec_l13Texts.ok (envOk_cons spec_l13Sent.ok (envOk_nil)))) (by kernel_rfl) (by kernel_rfl) (by kernel_rfl) (by kernel_rfl) fun k x r h => (spec_ChanOk.eq k x).trans h
end Go.Proofs.Ytpheniajdbbphaa.DI
