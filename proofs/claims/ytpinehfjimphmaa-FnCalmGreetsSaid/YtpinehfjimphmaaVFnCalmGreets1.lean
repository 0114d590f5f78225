/- FnCalmGreets: functions as plain Lean, in the machine of values. -/
import Derived.Test.YtpinehfjimphmaaVFnCalmGreets0
namespace Go.Proofs.Ytpinehfjimphmaa.DI
open Go
set_option linter.unusedVariables false
/-! laws.big -/
noncomputable def laws_big.c : Code := bodyOf Try.f22
def laws_big.h : Nat → Hint := look ⟨[], [], []⟩ []
def laws_big.ps : List PK := [.one]
def laws_big.rs : List RK := [.one true]
def laws_big.vs : List ResultVar := [.tmp 2]
def laws_big.x : Cx := ⟨tt, look none []⟩
def laws_big.f (_k : Nat) (a0 : List (Int)) : Option (Bool) :=
  some (decide ((a0.length : Int) > (1048576 : Int)))
def laws_big.K : Ctr := ⟨laws_big.ps, laws_big.rs, false, (.sl 5 (.int .u8)), .bool, fun k x => laws_big.f k x⟩
theorem laws_big.eq (k : Nat) (x : (laws_big.K.I).den) : func laws_big.x laws_big.h laws_big.ps laws_big.rs laws_big.vs laws_big.K.I laws_big.K.O laws_big.c k x = laws_big.K.run k x := by
  show _ = laws_big.f k x
  kernel_rfl
theorem laws_big.ok : CtrOk Try.prog 22 laws_big.K :=
  CtrOk.of (fn := Try.f22) (cd := laws_big.c) (cx := laws_big.x) (hs := laws_big.h) (by kernel_rfl) (by kernel_rfl) (by kernel_rfl) (by kernel_rfl) tt_ok (envOk_nil) (by kernel_rfl) (by kernel_rfl) (by kernel_rfl) (by kernel_rfl) fun k x r h => (laws_big.eq k x).trans h
/-! spec.l01New -/
noncomputable def spec_l01New.c : Code := bodyOf Try.f53
def spec_l01New.h : Nat → Hint := look ⟨[], [], []⟩ [(0, ⟨[0, 3, 4], [], []⟩)]
def spec_l01New.ps : List PK := [.one]
def spec_l01New.rs : List RK := [.ptr 82 3 false]
def spec_l01New.vs : List ResultVar := [.tmp 2]
def spec_l01New.x : Cx := ⟨tt, look none []⟩
def spec_l01New.s0 (_k : Nat) (rec0 : (Int × Int × (List (Int))) → Option ((List (Int)) × Int × Int)) (p : (Int × Int × (List (Int)))) : Option ((List (Int)) × Int × Int) :=
  (bif (decide (p.2.1 < (p.2.2.length : Int))) then (bif (decide (p.2.1 < (4000 : Int))) then (bif ((decide ((0 : Int) ≤ p.2.1)) && (decide (p.2.1 < (p.2.2.length : Int)))) then (p.2.2[p.2.1.toNat]?).bind fun x1 => rec0 ((IntKind.i64.wrap (((BitVec.ofInt IntKind.i64.bits (IntKind.i64.wrap ((IntKind.i64.wrap ((IntKind.i64.wrap (p.1 * (131 : Int))) + (IntKind.i64.wrap x1))) + (7 : Int)))) &&& (BitVec.ofInt IntKind.i64.bits (1073741823 : Int))).toNat : Int)), (IntKind.i64.wrap (p.2.1 + (1 : Int))), p.2.2) else none) else some (p.2.2, (0 : Int), p.1)) else some (p.2.2, (0 : Int), p.1))
def spec_l01New.l0 (k : Nat) : Nat → (Int × Int × (List (Int))) → Option ((List (Int)) × Int × Int)
  | 0 => fun _ => none
  | j + 1 => spec_l01New.s0 k (spec_l01New.l0 k j)
def spec_l01New.S0 (p : (Int × Int × (List (Int)))) : DS := ⟨tl [(0, .at (.whole 0)), (3, .at (.int .i64 p.1)), (4, .at (.int .i64 p.2.1))], lookO [(0, .row 5 (.int .u8) false p.2.2)]⟩
noncomputable def spec_l01New.D0 (k : Nat) (j : Nat) (p : (Int × Int × (List (Int)))) : Option ((List (Int)) × Int × Int) := loopK (normK [0] (spec_l01New.h 0)) (runK spec_l01New.x k 0 [0] spec_l01New.h 0 (sub spec_l01New.c [1, 1, 0, 1, 0, 0])) j (spec_l01New.S0 p) (kBlk 0 (kSeq (runK spec_l01New.x k 0 [0] spec_l01New.h 0 (sub spec_l01New.c [1, 1, 1])) (fin tt spec_l01New.ps spec_l01New.rs spec_l01New.vs (.two (.sl 5 (.int .u8)) (.two (.int .i64) (.int .i64))))))
theorem spec_l01New.D0_eq (k : Nat) : ∀ j, spec_l01New.D0 k j = spec_l01New.l0 k j := by
  intro j
  induction j with
  | zero => rfl
  | succ j ih =>
    show _ = spec_l01New.s0 k (spec_l01New.l0 k j)
    rw [← ih]
    funext p
    kernel_rfl
def spec_l01New.f (k : Nat) (a0 : List (Int)) : Option ((List (Int)) × Int × Int) :=
  spec_l01New.l0 k k ((IntKind.i64.wrap ((36201 : Int) + (a0.length : Int))), (0 : Int), a0)
def spec_l01New.K : Ctr := ⟨spec_l01New.ps, spec_l01New.rs, true, (.sl 5 (.int .u8)), (.two (.sl 5 (.int .u8)) (.two (.int .i64) (.int .i64))), fun k x => spec_l01New.f k x⟩
theorem spec_l01New.eq (k : Nat) (x : (spec_l01New.K.I).den) : func spec_l01New.x spec_l01New.h spec_l01New.ps spec_l01New.rs spec_l01New.vs spec_l01New.K.I spec_l01New.K.O spec_l01New.c k x = spec_l01New.K.run k x := by
  show _ = spec_l01New.f k x
  unfold spec_l01New.f
  rw [← spec_l01New.D0_eq k k]
  kernel_rfl
theorem spec_l01New.ok : CtrOk Try.prog 53 spec_l01New.K :=
  CtrOk.of (fn := Try.f53) (cd := spec_l01New.c) (cx := spec_l01New.x) (hs := spec_l01New.h) (by kernel_rfl) (by kernel_rfl) (by kernel_rfl) (by kernel_rfl) tt_ok (envOk_nil) (by kernel_rfl) (by kernel_rfl) (by kernel_rfl) (by kernel_rfl) fun k x r h => (spec_l01New.eq k x).trans h
/-! spec.l01Byte -/
noncomputable def spec_l01Byte.c : Code := bodyOf Try.f74
def spec_l01Byte.h : Nat → Hint := look ⟨[], [], []⟩ []
def spec_l01Byte.ps : List PK := [.box 82 3]
def spec_l01Byte.rs : List RK := [.one true]
def spec_l01Byte.vs : List ResultVar := [.tmp 2]
def spec_l01Byte.x : Cx := ⟨tt, look none []⟩
def spec_l01Byte.f (_k : Nat) (a0_0 : List (Int)) (a0_1 : Int) (a0_2 : Int) : Option (Int × (List (Int)) × Int × Int) :=
  (bif (decide (a0_1 < (a0_0.length : Int))) then (bif ((decide ((0 : Int) ≤ a0_1)) && (decide (a0_1 < (a0_0.length : Int)))) then (a0_0[a0_1.toNat]?).bind fun x1 => some ((IntKind.i64.wrap (((BitVec.ofInt IntKind.i64.bits (IntKind.i64.wrap ((IntKind.i64.wrap (((BitVec.ofInt IntKind.i64.bits (IntKind.i64.wrap (((BitVec.ofInt IntKind.i64.bits ((IntKind.i64.wrap ((IntKind.i64.wrap (a0_2 * (6364136223846793005 : Int))) + (1442695040888963407 : Int))).fdiv (2 ^ 33))) ^^^ (BitVec.ofInt IntKind.i64.bits ((IntKind.i64.wrap ((IntKind.i64.wrap (a0_2 * (6364136223846793005 : Int))) + (1442695040888963407 : Int))).fdiv (2 ^ 45)))).toNat : Int))) &&& (BitVec.ofInt IntKind.i64.bits (255 : Int))).toNat : Int)) + (IntKind.i64.wrap x1)))) &&& (BitVec.ofInt IntKind.i64.bits (255 : Int))).toNat : Int)), a0_0, (IntKind.i64.wrap (a0_1 + (1 : Int))), (IntKind.i64.wrap ((IntKind.i64.wrap (a0_2 * (6364136223846793005 : Int))) + (1442695040888963407 : Int)))) else none) else some ((IntKind.i64.wrap (((BitVec.ofInt IntKind.i64.bits (IntKind.i64.wrap (((BitVec.ofInt IntKind.i64.bits ((IntKind.i64.wrap ((IntKind.i64.wrap (a0_2 * (6364136223846793005 : Int))) + (1442695040888963407 : Int))).fdiv (2 ^ 33))) ^^^ (BitVec.ofInt IntKind.i64.bits ((IntKind.i64.wrap ((IntKind.i64.wrap (a0_2 * (6364136223846793005 : Int))) + (1442695040888963407 : Int))).fdiv (2 ^ 45)))).toNat : Int))) &&& (BitVec.ofInt IntKind.i64.bits (255 : Int))).toNat : Int)), a0_0, a0_1, (IntKind.i64.wrap ((IntKind.i64.wrap (a0_2 * (6364136223846793005 : Int))) + (1442695040888963407 : Int)))))
def spec_l01Byte.K : Ctr := ⟨spec_l01Byte.ps, spec_l01Byte.rs, true, (.two (.sl 5 (.int .u8)) (.two (.int .i64) (.int .i64))), (.two (.int .i64) (.two (.sl 5 (.int .u8)) (.two (.int .i64) (.int .i64)))), fun k x => spec_l01Byte.f k x.1 x.2.1 x.2.2⟩
theorem spec_l01Byte.eq (k : Nat) (x : (spec_l01Byte.K.I).den) : func spec_l01Byte.x spec_l01Byte.h spec_l01Byte.ps spec_l01Byte.rs spec_l01Byte.vs spec_l01Byte.K.I spec_l01Byte.K.O spec_l01Byte.c k x = spec_l01Byte.K.run k x := by
  show _ = spec_l01Byte.f k x.1 x.2.1 x.2.2
  kernel_rfl
theorem spec_l01Byte.ok : CtrOk Try.prog 74 spec_l01Byte.K :=
  CtrOk.of (fn := Try.f74) (cd := spec_l01Byte.c) (cx := spec_l01Byte.x) (hs := spec_l01Byte.h) (by kernel_rfl) (by kernel_rfl) (by kernel_rfl) (by kernel_rfl) tt_ok (envOk_nil) (by kernel_rfl) (by kernel_rfl) (by kernel_rfl) (by kernel_rfl) fun k x r h => (spec_l01Byte.eq k x).trans h
/-! spec.l01Text -/
noncomputable def spec_l01Text.c : Code := bodyOf Try.f73
def spec_l01Text.h : Nat → Hint := look ⟨[], [], []⟩ [(0, ⟨[0, 1, 5, 6], [], [(.b 0 0, 368, 5, (.int .u8)), (.t 5, 369, 5, (.int .u8))]⟩)]
def spec_l01Text.ps : List PK := [.box 82 3, .one]
def spec_l01Text.rs : List RK := [.one true]
def spec_l01Text.vs : List ResultVar := [.tmp 4]
def spec_l01Text.x : Cx := ⟨tt, look none [(74, some spec_l01Byte.K)]⟩
def spec_l01Text.s0 (k : Nat) (rec0 : (Int × Int × Int × Int × (List (Int)) × (List (Int)) × (List (Int))) → Option (ByteArray × (List (Int)) × Int × Int)) (p : (Int × Int × Int × Int × (List (Int)) × (List (Int)) × (List (Int)))) : Option (ByteArray × (List (Int)) × Int × Int) :=
  (bif (decide (p.2.1 < p.1)) then (spec_l01Byte.f k p.2.2.2.2.2.1 p.2.2.1 p.2.2.2.1).bind fun r1 => (bif decide ((p.2.2.2.2.2.2.length + [(IntKind.u8.wrap r1.1)].length) * 1 ≤ 140737488355328) then rec0 (p.1, (IntKind.i64.wrap (p.2.1 + (1 : Int))), r1.2.2.1, r1.2.2.2, p.2.2.2.2.1, r1.2.1, (p.2.2.2.2.2.2 ++ [(IntKind.u8.wrap r1.1)])) else none) else some ((strOfNums p.2.2.2.2.2.2), p.2.2.2.2.2.1, p.2.2.1, p.2.2.2.1))
def spec_l01Text.l0 (k : Nat) : Nat → (Int × Int × Int × Int × (List (Int)) × (List (Int)) × (List (Int))) → Option (ByteArray × (List (Int)) × Int × Int)
  | 0 => fun _ => none
  | j + 1 => spec_l01Text.s0 k (spec_l01Text.l0 k j)
def spec_l01Text.S0 (p : (Int × Int × Int × Int × (List (Int)) × (List (Int)) × (List (Int)))) : DS := ⟨tl [(0, .at (.bptr 0 0)), (1, .at (.int .i64 p.1)), (5, .at (.whole 369)), (6, .at (.int .i64 p.2.1))], lookO [(0, .box 82 [.whole 368, .int .i64 p.2.2.1, .int .i64 p.2.2.2.1]), (1, .row 5 (.int .u8) false p.2.2.2.2.1), (368, .row 5 (.int .u8) false p.2.2.2.2.2.1), (369, .row 5 (.int .u8) true p.2.2.2.2.2.2)]⟩
noncomputable def spec_l01Text.D0 (k : Nat) (j : Nat) (p : (Int × Int × Int × Int × (List (Int)) × (List (Int)) × (List (Int)))) : Option (ByteArray × (List (Int)) × Int × Int) := loopK (normK [0, 1] (spec_l01Text.h 0)) (runK spec_l01Text.x k 0 [0, 1] spec_l01Text.h 0 (sub spec_l01Text.c [1, 1, 1, 0, 1, 0, 0])) j (spec_l01Text.S0 p) (kBlk 0 (kSeq (runK spec_l01Text.x k 0 [0, 1] spec_l01Text.h 0 (sub spec_l01Text.c [1, 1, 1, 1])) (fin tt spec_l01Text.ps spec_l01Text.rs spec_l01Text.vs (.two .str (.two (.sl 5 (.int .u8)) (.two (.int .i64) (.int .i64)))))))
theorem spec_l01Text.D0_eq (k : Nat) : ∀ j, spec_l01Text.D0 k j = spec_l01Text.l0 k j := by
  intro j
  induction j with
  | zero => rfl
  | succ j ih =>
    show _ = spec_l01Text.s0 k (spec_l01Text.l0 k j)
    rw [← ih]
    funext p
    kernel_rfl
def spec_l01Text.f (k : Nat) (a0_0 : List (Int)) (a0_1 : Int) (a0_2 : Int) (a1 : Int) : Option (ByteArray × (List (Int)) × Int × Int) :=
  (bif (decide (a1 > (5000 : Int))) then spec_l01Text.l0 k k ((5000 : Int), (0 : Int), a0_1, a0_2, a0_0, a0_0, ([] : List (Int))) else spec_l01Text.l0 k k (a1, (0 : Int), a0_1, a0_2, a0_0, a0_0, ([] : List (Int))))
def spec_l01Text.K : Ctr := ⟨spec_l01Text.ps, spec_l01Text.rs, true, (.two (.sl 5 (.int .u8)) (.two (.int .i64) (.two (.int .i64) (.int .i64)))), (.two .str (.two (.sl 5 (.int .u8)) (.two (.int .i64) (.int .i64)))), fun k x => spec_l01Text.f k x.1 x.2.1 x.2.2.1 x.2.2.2⟩
theorem spec_l01Text.eq (k : Nat) (x : (spec_l01Text.K.I).den) : func spec_l01Text.x spec_l01Text.h spec_l01Text.ps spec_l01Text.rs spec_l01Text.vs spec_l01Text.K.I spec_l01Text.K.O spec_l01Text.c k x = spec_l01Text.K.run k x := by
  show _ = spec_l01Text.f k x.1 x.2.1 x.2.2.1 x.2.2.2
  unfold spec_l01Text.f
  rw [← spec_l01Text.D0_eq k k]
  kernel_rfl
theorem spec_l01Text.ok : CtrOk Try.prog 73 spec_l01Text.K :=
  CtrOk.of (fn := Try.f73) (cd := spec_l01Text.c) (cx := spec_l01Text.x) (hs := spec_l01Text.h) (by kernel_rfl) (by kernel_rfl) (by kernel_rfl) (by kernel_rfl) tt_ok (envOk_cons spec_l01Byte.ok (envOk_nil)) (by kernel_rfl) (by kernel_rfl) (by kernel_rfl) (by kernel_rfl) fun k x r h => (spec_l01Text.eq k x).trans h
/-! spec.l16Seeds -/
noncomputable def spec_l16Seeds.c : Code := bodyOf Try.f54
def spec_l16Seeds.h : Nat → Hint := look ⟨[], [], []⟩ []
def spec_l16Seeds.ps : List PK := [.box 82 3]
def spec_l16Seeds.rs : List RK := [.one true]
def spec_l16Seeds.vs : List ResultVar := [.tmp 2]
def spec_l16Seeds.x : Cx := ⟨tt, look none [(73, some spec_l01Text.K)]⟩
def spec_l16Seeds.f (k : Nat) (a0_0 : List (Int)) (a0_1 : Int) (a0_2 : Int) : Option ((List (ByteArray)) × (List (Int)) × Int × Int) :=
  (spec_l01Text.f k a0_0 a0_1 a0_2 (2 : Int)).bind fun r1 => (spec_l01Text.f k r1.2.1 r1.2.2.1 r1.2.2.2 (2 : Int)).bind fun r2 => (spec_l01Text.f k r2.2.1 r2.2.2.1 r2.2.2.2 (2 : Int)).bind fun r3 => (spec_l01Text.f k r3.2.1 r3.2.2.1 r3.2.2.2 (2 : Int)).bind fun r4 => some ([r1.1, r2.1, r3.1, r4.1], r4.2.1, r4.2.2.1, r4.2.2.2)
def spec_l16Seeds.K : Ctr := ⟨spec_l16Seeds.ps, spec_l16Seeds.rs, true, (.two (.sl 5 (.int .u8)) (.two (.int .i64) (.int .i64))), (.two (.sl 9 .str) (.two (.sl 5 (.int .u8)) (.two (.int .i64) (.int .i64)))), fun k x => spec_l16Seeds.f k x.1 x.2.1 x.2.2⟩
theorem spec_l16Seeds.eq (k : Nat) (x : (spec_l16Seeds.K.I).den) : func spec_l16Seeds.x spec_l16Seeds.h spec_l16Seeds.ps spec_l16Seeds.rs spec_l16Seeds.vs spec_l16Seeds.K.I spec_l16Seeds.K.O spec_l16Seeds.c k x = spec_l16Seeds.K.run k x := by
  show _ = spec_l16Seeds.f k x.1 x.2.1 x.2.2
  kernel_rfl
theorem spec_l16Seeds.ok : CtrOk Try.prog 54 spec_l16Seeds.K :=
  CtrOk.of (fn := Try.f54) (cd := spec_l16Seeds.c) (cx := spec_l16Seeds.x) (hs := spec_l16Seeds.h) (by kernel_rfl) (by kernel_rfl) (by kernel_rfl) (by kernel_rfl) tt_ok (envOk_cons spec_l01Text.ok (envOk_nil)) (by kernel_rfl) (by kernel_rfl) (by kernel_rfl) (by kernel_rfl) fun k x r h => (spec_l16Seeds.eq k x).trans h
/-! spec.l01Below -/
noncomputable def spec_l01Below.c : Code := bodyOf Try.f55
def spec_l01Below.h : Nat → Hint := look ⟨[], [], []⟩ []
def spec_l01Below.ps : List PK := [.box 82 3, .one]
def spec_l01Below.rs : List RK := [.one true]
def spec_l01Below.vs : List ResultVar := [.tmp 4]
def spec_l01Below.x : Cx := ⟨tt, look none [(74, some spec_l01Byte.K)]⟩
def spec_l01Below.f (k : Nat) (a0_0 : List (Int)) (a0_1 : Int) (a0_2 : Int) (a1 : Int) : Option (Int × (List (Int)) × Int × Int) :=
  (bif (decide (a1 ≤ (0 : Int))) then some ((0 : Int), a0_0, a0_1, a0_2) else (bif (decide (a1 ≤ (256 : Int))) then (spec_l01Byte.f k a0_0 a0_1 a0_2).bind fun r1 => (bif (a1 == 0) then none else some ((r1.1.tmod a1), r1.2.1, r1.2.2.1, r1.2.2.2)) else (spec_l01Byte.f k a0_0 a0_1 a0_2).bind fun r2 => (spec_l01Byte.f k r2.2.1 r2.2.2.1 r2.2.2.2).bind fun r3 => (spec_l01Byte.f k r3.2.1 r3.2.2.1 r3.2.2.2).bind fun r4 => (spec_l01Byte.f k r4.2.1 r4.2.2.1 r4.2.2.2).bind fun r5 => (bif (a1 == 0) then none else some (((IntKind.i64.wrap ((IntKind.i64.wrap ((IntKind.i64.wrap ((IntKind.i64.wrap (r2.1 * (16777216 : Int))) + (IntKind.i64.wrap (r3.1 * (65536 : Int))))) + (IntKind.i64.wrap (r4.1 * (256 : Int))))) + r5.1)).tmod a1), r5.2.1, r5.2.2.1, r5.2.2.2))))
def spec_l01Below.K : Ctr := ⟨spec_l01Below.ps, spec_l01Below.rs, true, (.two (.sl 5 (.int .u8)) (.two (.int .i64) (.two (.int .i64) (.int .i64)))), (.two (.int .i64) (.two (.sl 5 (.int .u8)) (.two (.int .i64) (.int .i64)))), fun k x => spec_l01Below.f k x.1 x.2.1 x.2.2.1 x.2.2.2⟩
theorem spec_l01Below.eq (k : Nat) (x : (spec_l01Below.K.I).den) : func spec_l01Below.x spec_l01Below.h spec_l01Below.ps spec_l01Below.rs spec_l01Below.vs spec_l01Below.K.I spec_l01Below.K.O spec_l01Below.c k x = spec_l01Below.K.run k x := by
  show _ = spec_l01Below.f k x.1 x.2.1 x.2.2.1 x.2.2.2
  kernel_rfl
theorem spec_l01Below.ok : CtrOk Try.prog 55 spec_l01Below.K :=
  CtrOk.of (fn := Try.f55) (cd := spec_l01Below.c) (cx := spec_l01Below.x) (hs := spec_l01Below.h) (by kernel_rfl) (by kernel_rfl) (by kernel_rfl) (by kernel_rfl) tt_ok (envOk_cons spec_l01Byte.ok (envOk_nil)) (by kernel_rfl) (by kernel_rfl) (by kernel_rfl) (by kernel_rfl) fun k x r h => (spec_l01Below.eq k x).trans h
/-! spec.l01PickInt -/
noncomputable def spec_l01PickInt.c : Code := bodyOf Try.f56
def spec_l01PickInt.h : Nat → Hint := look ⟨[], [], []⟩ []
def spec_l01PickInt.ps : List PK := [.box 82 3, .one]
def spec_l01PickInt.rs : List RK := [.one true]
def spec_l01PickInt.vs : List ResultVar := [.tmp 4]
def spec_l01PickInt.x : Cx := ⟨tt, look none [(55, some spec_l01Below.K)]⟩
def spec_l01PickInt.f (k : Nat) (a0_0 : List (Int)) (a0_1 : Int) (a0_2 : Int) (a1 : List (Int)) : Option (Int × (List (Int)) × Int × Int) :=
  (spec_l01Below.f k a0_0 a0_1 a0_2 (a1.length : Int)).bind fun r1 => (bif ((decide ((0 : Int) ≤ r1.1)) && (decide (r1.1 < (a1.length : Int)))) then (a1[r1.1.toNat]?).bind fun x2 => some (x2, r1.2.1, r1.2.2.1, r1.2.2.2) else none)
def spec_l01PickInt.K : Ctr := ⟨spec_l01PickInt.ps, spec_l01PickInt.rs, true, (.two (.sl 5 (.int .u8)) (.two (.int .i64) (.two (.int .i64) (.sl 3 (.int .i64))))), (.two (.int .i64) (.two (.sl 5 (.int .u8)) (.two (.int .i64) (.int .i64)))), fun k x => spec_l01PickInt.f k x.1 x.2.1 x.2.2.1 x.2.2.2⟩
theorem spec_l01PickInt.eq (k : Nat) (x : (spec_l01PickInt.K.I).den) : func spec_l01PickInt.x spec_l01PickInt.h spec_l01PickInt.ps spec_l01PickInt.rs spec_l01PickInt.vs spec_l01PickInt.K.I spec_l01PickInt.K.O spec_l01PickInt.c k x = spec_l01PickInt.K.run k x := by
  show _ = spec_l01PickInt.f k x.1 x.2.1 x.2.2.1 x.2.2.2
  kernel_rfl
theorem spec_l01PickInt.ok : CtrOk Try.prog 56 spec_l01PickInt.K :=
  CtrOk.of (fn := Try.f56) (cd := spec_l01PickInt.c) (cx := spec_l01PickInt.x) (hs := spec_l01PickInt.h) (by kernel_rfl) (by kernel_rfl) (by kernel_rfl) (by kernel_rfl) tt_ok (envOk_cons spec_l01Below.ok (envOk_nil)) (by kernel_rfl) (by kernel_rfl) (by kernel_rfl) (by kernel_rfl) fun k x r h => (spec_l01PickInt.eq k x).trans h
/-! spec.DrawSeeds -/
noncomputable def spec_DrawSeeds.c : Code := bodyOf Try.f23
def spec_DrawSeeds.h : Nat → Hint := look ⟨[], [], []⟩ [(0, ⟨[4, 5, 6, 7], [144], [(.b 144 0, 432, 5, (.int .u8)), (.t 5, 433, 9, .str), (.t 6, 434, 3, (.int .i64))]⟩)]
def spec_DrawSeeds.ps : List PK := [.one]
def spec_DrawSeeds.rs : List RK := [.one true, .one true]
def spec_DrawSeeds.vs : List ResultVar := [.tmp 2, .tmp 3]
def spec_DrawSeeds.x : Cx := ⟨tt, look none [(53, some spec_l01New.K), (54, some spec_l16Seeds.K), (55, some spec_l01Below.K), (56, some spec_l01PickInt.K)]⟩
def spec_DrawSeeds.s0 (k : Nat) (rec0 : (Int × (List (Int)) × Int × Int × (List (Int)) × (List (ByteArray)) × (List (Int))) → Option ((List (ByteArray)) × (List (Int)))) (p : (Int × (List (Int)) × Int × Int × (List (Int)) × (List (ByteArray)) × (List (Int)))) : Option ((List (ByteArray)) × (List (Int))) :=
  (spec_l01Below.f k p.2.2.2.2.1 p.2.2.1 p.2.2.2.1 (7 : Int)).bind fun r3 => (bif (decide (p.1 < r3.1)) then (spec_l01PickInt.f k r3.2.1 r3.2.2.1 r3.2.2.2 [(0 : Int), (1 : Int), (0 : Int), (1 : Int), (0 : Int), (1 : Int), (2 : Int), (3 : Int)]).bind fun r4 => (bif decide ((p.2.2.2.2.2.2.length + [r4.1].length) * 8 ≤ 140737488355328) then rec0 ((IntKind.i64.wrap (p.1 + (1 : Int))), p.2.1, r4.2.2.1, r4.2.2.2, r4.2.1, p.2.2.2.2.2.1, (p.2.2.2.2.2.2 ++ [r4.1])) else none) else some (p.2.2.2.2.2.1, p.2.2.2.2.2.2))
def spec_DrawSeeds.l0 (k : Nat) : Nat → (Int × (List (Int)) × Int × Int × (List (Int)) × (List (ByteArray)) × (List (Int))) → Option ((List (ByteArray)) × (List (Int)))
  | 0 => fun _ => none
  | j + 1 => spec_DrawSeeds.s0 k (spec_DrawSeeds.l0 k j)
def spec_DrawSeeds.S0 (p : (Int × (List (Int)) × Int × Int × (List (Int)) × (List (ByteArray)) × (List (Int)))) : DS := ⟨tl [(4, .at (.bptr 144 0)), (5, .at (.whole 433)), (6, .at (.whole 434)), (7, .at (.int .i64 p.1))], lookO [(0, .row 5 (.int .u8) false p.2.1), (144, .box 82 [.whole 432, .int .i64 p.2.2.1, .int .i64 p.2.2.2.1]), (432, .row 5 (.int .u8) false p.2.2.2.2.1), (433, .row 9 .str true p.2.2.2.2.2.1), (434, .row 3 (.int .i64) true p.2.2.2.2.2.2)]⟩
noncomputable def spec_DrawSeeds.D0 (k : Nat) (j : Nat) (p : (Int × (List (Int)) × Int × Int × (List (Int)) × (List (ByteArray)) × (List (Int)))) : Option ((List (ByteArray)) × (List (Int))) := loopK (normK [0] (spec_DrawSeeds.h 0)) (runK spec_DrawSeeds.x k 0 [0] spec_DrawSeeds.h 0 (sub spec_DrawSeeds.c [1, 1, 1, 1, 0, 1, 0, 0])) j (spec_DrawSeeds.S0 p) (kBlk 0 (kSeq (runK spec_DrawSeeds.x k 0 [0] spec_DrawSeeds.h 0 (sub spec_DrawSeeds.c [1, 1, 1, 1, 1])) (fin tt spec_DrawSeeds.ps spec_DrawSeeds.rs spec_DrawSeeds.vs (.two (.sl 9 .str) (.sl 3 (.int .i64))))))
theorem spec_DrawSeeds.D0_eq (k : Nat) : ∀ j, spec_DrawSeeds.D0 k j = spec_DrawSeeds.l0 k j := by
  intro j
  induction j with
  | zero => rfl
  | succ j ih =>
    show _ = spec_DrawSeeds.s0 k (spec_DrawSeeds.l0 k j)
    rw [← ih]
    funext p
    kernel_rfl
def spec_DrawSeeds.f (k : Nat) (a0 : List (Int)) : Option ((List (ByteArray)) × (List (Int))) :=
  (spec_l01New.f k a0).bind fun r1 => (spec_l16Seeds.f k r1.1 r1.2.1 r1.2.2).bind fun r2 => spec_DrawSeeds.l0 k k ((0 : Int), a0, r2.2.2.1, r2.2.2.2, r2.2.1, r2.1, ([] : List (Int)))
def spec_DrawSeeds.K : Ctr := ⟨spec_DrawSeeds.ps, spec_DrawSeeds.rs, false, (.sl 5 (.int .u8)), (.two (.sl 9 .str) (.sl 3 (.int .i64))), fun k x => spec_DrawSeeds.f k x⟩
theorem spec_DrawSeeds.eq (k : Nat) (x : (spec_DrawSeeds.K.I).den) : func spec_DrawSeeds.x spec_DrawSeeds.h spec_DrawSeeds.ps spec_DrawSeeds.rs spec_DrawSeeds.vs spec_DrawSeeds.K.I spec_DrawSeeds.K.O spec_DrawSeeds.c k x = spec_DrawSeeds.K.run k x := by
  show _ = spec_DrawSeeds.f k x
  unfold spec_DrawSeeds.f
  rw [← spec_DrawSeeds.D0_eq k k]
  kernel_rfl
theorem spec_DrawSeeds.ok : CtrOk Try.prog 23 spec_DrawSeeds.K :=
  CtrOk.of (fn := Try.f23) (cd := spec_DrawSeeds.c) (cx := spec_DrawSeeds.x) (hs := spec_DrawSeeds.h) (by kernel_rfl) (by kernel_rfl) (by kernel_rfl) (by kernel_rfl) tt_ok (envOk_cons spec_l01New.ok (envOk_cons spec_l16Seeds.ok (envOk_cons spec_l01Below.ok (envOk_cons spec_l01PickInt.ok (envOk_nil))))) (by kernel_rfl) (by kernel_rfl) (by kernel_rfl) (by kernel_rfl) fun k x r h => (spec_DrawSeeds.eq k x).trans h
/-! impl.within -/
noncomputable def impl_within.c : Code := bodyOf Try.f34
def impl_within.h : Nat → Hint := look ⟨[], [], []⟩ []
def impl_within.ps : List PK := [.one, .one, .one]
def impl_within.rs : List RK := [.one true]
def impl_within.vs : List ResultVar := [.tmp 6]
def impl_within.x : Cx := ⟨tt, look none []⟩
def impl_within.f (_k : Nat) (a0 : Int) (a1 : Int) (a2 : Int) : Option (Bool) :=
  (bif (decide (a0 ≥ a1)) then some (decide (a0 ≤ a2)) else some false)
def impl_within.K : Ctr := ⟨impl_within.ps, impl_within.rs, false, (.two (.int .i64) (.two (.int .i64) (.int .i64))), .bool, fun k x => impl_within.f k x.1 x.2.1 x.2.2⟩
theorem impl_within.eq (k : Nat) (x : (impl_within.K.I).den) : func impl_within.x impl_within.h impl_within.ps impl_within.rs impl_within.vs impl_within.K.I impl_within.K.O impl_within.c k x = impl_within.K.run k x := by
  show _ = impl_within.f k x.1 x.2.1 x.2.2
  kernel_rfl
theorem impl_within.ok : CtrOk Try.prog 34 impl_within.K :=
  CtrOk.of (fn := Try.f34) (cd := impl_within.c) (cx := impl_within.x) (hs := impl_within.h) (by kernel_rfl) (by kernel_rfl) (by kernel_rfl) (by kernel_rfl) tt_ok (envOk_nil) (by kernel_rfl) (by kernel_rfl) (by kernel_rfl) (by kernel_rfl) fun k x r h => (impl_within.eq k x).trans h
/-! impl.NumberText -/
noncomputable def impl_NumberText.c : Code := bodyOf Try.f29
def impl_NumberText.h : Nat → Hint := look ⟨[], [], []⟩ []
def impl_NumberText.ps : List PK := [.one]
def impl_NumberText.rs : List RK := [.one true]
def impl_NumberText.vs : List ResultVar := [.tmp 2]
def impl_NumberText.x : Cx := ⟨tt, look none [(34, some impl_within.K)]⟩
def impl_NumberText.f (k : Nat) (a0 : Int) : Option (ByteArray) :=
  (impl_within.f k a0 (0 : Int) (4294967295 : Int)).bind fun r1 => (bif (!r1) then some ByteArray.empty else some (strOfNums [(IntKind.u8.wrap (IntKind.i64.wrap (((BitVec.ofInt IntKind.i64.bits (a0.fdiv (2 ^ 24))) &&& (BitVec.ofInt IntKind.i64.bits (255 : Int))).toNat : Int))), (IntKind.u8.wrap (IntKind.i64.wrap (((BitVec.ofInt IntKind.i64.bits (a0.fdiv (2 ^ 16))) &&& (BitVec.ofInt IntKind.i64.bits (255 : Int))).toNat : Int))), (IntKind.u8.wrap (IntKind.i64.wrap (((BitVec.ofInt IntKind.i64.bits (a0.fdiv (2 ^ 8))) &&& (BitVec.ofInt IntKind.i64.bits (255 : Int))).toNat : Int))), (IntKind.u8.wrap (IntKind.i64.wrap (((BitVec.ofInt IntKind.i64.bits a0) &&& (BitVec.ofInt IntKind.i64.bits (255 : Int))).toNat : Int)))]))
def impl_NumberText.K : Ctr := ⟨impl_NumberText.ps, impl_NumberText.rs, false, (.int .i64), .str, fun k x => impl_NumberText.f k x⟩
theorem impl_NumberText.eq (k : Nat) (x : (impl_NumberText.K.I).den) : func impl_NumberText.x impl_NumberText.h impl_NumberText.ps impl_NumberText.rs impl_NumberText.vs impl_NumberText.K.I impl_NumberText.K.O impl_NumberText.c k x = impl_NumberText.K.run k x := by
  show _ = impl_NumberText.f k x
  kernel_rfl
theorem impl_NumberText.ok : CtrOk Try.prog 29 impl_NumberText.K :=
  CtrOk.of (fn := Try.f29) (cd := impl_NumberText.c) (cx := impl_NumberText.x) (hs := impl_NumberText.h) (by kernel_rfl) (by kernel_rfl) (by kernel_rfl) (by kernel_rfl) tt_ok (envOk_cons impl_within.ok (envOk_nil)) (by kernel_rfl) (by kernel_rfl) (by kernel_rfl) (by kernel_rfl) fun k x r h => (impl_NumberText.eq k x).trans h
/-! impl.wordsText -/
noncomputable def impl_wordsText.c : Code := bodyOf Try.f103
def impl_wordsText.h : Nat → Hint := look ⟨[], [], []⟩ [(0, ⟨[3, 6, 7, 8], [], []⟩)]
def impl_wordsText.ps : List PK := [.one]
def impl_wordsText.rs : List RK := [.one true]
def impl_wordsText.vs : List ResultVar := [.tmp 2]
def impl_wordsText.x : Cx := ⟨tt, look none [(29, some impl_NumberText.K)]⟩
def impl_wordsText.s0 (k : Nat) (rec0 : (ByteArray × Int × Int × (List (Int))) → Option (ByteArray)) (p : (ByteArray × Int × Int × (List (Int)))) : Option (ByteArray) :=
  (bif (decide (p.2.2.1 < p.2.1)) then (bif ((decide ((0 : Int) ≤ p.2.2.1)) && (decide (p.2.2.1 < (p.2.2.2.length : Int)))) then (p.2.2.2[p.2.2.1.toNat]?).bind fun x1 => (impl_NumberText.f k x1).bind fun r2 => (bif decide (p.1.size + r2.size ≤ 140737488351232) then rec0 ((p.1 ++ r2), p.2.1, (IntKind.i64.wrap (p.2.2.1 + (1 : Int))), p.2.2.2) else none) else none) else some p.1)
def impl_wordsText.l0 (k : Nat) : Nat → (ByteArray × Int × Int × (List (Int))) → Option (ByteArray)
  | 0 => fun _ => none
  | j + 1 => impl_wordsText.s0 k (impl_wordsText.l0 k j)
def impl_wordsText.S0 (p : (ByteArray × Int × Int × (List (Int)))) : DS := ⟨tl [(3, .at (.str p.1)), (6, .at (.whole 0)), (7, .at (.int .i64 p.2.1)), (8, .at (.int .i64 p.2.2.1))], lookO [(0, .row 3 (.int .i64) false p.2.2.2)]⟩
noncomputable def impl_wordsText.D0 (k : Nat) (j : Nat) (p : (ByteArray × Int × Int × (List (Int)))) : Option (ByteArray) := loopK (normK [0] (impl_wordsText.h 0)) (runK impl_wordsText.x k 0 [0] impl_wordsText.h 0 (sub impl_wordsText.c [1, 1, 0, 1, 0, 0])) j (impl_wordsText.S0 p) (kBlk 0 (kSeq (runK impl_wordsText.x k 0 [0] impl_wordsText.h 0 (sub impl_wordsText.c [1, 1, 1])) (fin tt impl_wordsText.ps impl_wordsText.rs impl_wordsText.vs .str)))
theorem impl_wordsText.D0_eq (k : Nat) : ∀ j, impl_wordsText.D0 k j = impl_wordsText.l0 k j := by
  intro j
  induction j with
  | zero => rfl
  | succ j ih =>
    show _ = impl_wordsText.s0 k (impl_wordsText.l0 k j)
    rw [← ih]
    funext p
    kernel_rfl
def impl_wordsText.f (k : Nat) (a0 : List (Int)) : Option (ByteArray) :=
  impl_wordsText.l0 k k (ByteArray.empty, (a0.length : Int), (0 : Int), a0)
def impl_wordsText.K : Ctr := ⟨impl_wordsText.ps, impl_wordsText.rs, false, (.sl 3 (.int .i64)), .str, fun k x => impl_wordsText.f k x⟩
theorem impl_wordsText.eq (k : Nat) (x : (impl_wordsText.K.I).den) : func impl_wordsText.x impl_wordsText.h impl_wordsText.ps impl_wordsText.rs impl_wordsText.vs impl_wordsText.K.I impl_wordsText.K.O impl_wordsText.c k x = impl_wordsText.K.run k x := by
  show _ = impl_wordsText.f k x
  unfold impl_wordsText.f
  rw [← impl_wordsText.D0_eq k k]
  kernel_rfl
theorem impl_wordsText.ok : CtrOk Try.prog 103 impl_wordsText.K :=
  CtrOk.of (fn := Try.f103) (cd := impl_wordsText.c) (cx := impl_wordsText.x) (hs := impl_wordsText.h) (by kernel_rfl) (by kernel_rfl) (by kernel_rfl) (by kernel_rfl) tt_ok (envOk_cons impl_NumberText.ok (envOk_nil)) (by kernel_rfl) (by kernel_rfl) (by kernel_rfl) (by kernel_rfl) fun k x r h => (impl_wordsText.eq k x).trans h
/-! impl.firstState -/
noncomputable def impl_firstState.c : Code := bodyOf Try.f92
def impl_firstState.h : Nat → Hint := look ⟨[], [], []⟩ []
def impl_firstState.ps : List PK := []
def impl_firstState.rs : List RK := [.one true]
def impl_firstState.vs : List ResultVar := [.tmp 0]
def impl_firstState.x : Cx := ⟨tt, look none [(103, some impl_wordsText.K)]⟩
def impl_firstState.f (k : Nat) : Option (ByteArray) :=
  (impl_wordsText.f k [(1779033703 : Int), (3144134277 : Int), (1013904242 : Int), (2773480762 : Int), (1359893119 : Int), (2600822924 : Int), (528734635 : Int), (1541459225 : Int)]).bind fun r1 => some r1
def impl_firstState.K : Ctr := ⟨impl_firstState.ps, impl_firstState.rs, false, .unit, .str, fun k _ => impl_firstState.f k⟩
theorem impl_firstState.eq (k : Nat) (x : (impl_firstState.K.I).den) : func impl_firstState.x impl_firstState.h impl_firstState.ps impl_firstState.rs impl_firstState.vs impl_firstState.K.I impl_firstState.K.O impl_firstState.c k x = impl_firstState.K.run k x := by
  show _ = impl_firstState.f k
  kernel_rfl
theorem impl_firstState.ok : CtrOk Try.prog 92 impl_firstState.K :=
  CtrOk.of (fn := Try.f92) (cd := impl_firstState.c) (cx := impl_firstState.x) (hs := impl_firstState.h) (by kernel_rfl) (by kernel_rfl) (by kernel_rfl) (by kernel_rfl) tt_ok (envOk_cons impl_wordsText.ok (envOk_nil)) (by kernel_rfl) (by kernel_rfl) (by kernel_rfl) (by kernel_rfl) fun k x r h => (impl_firstState.eq k x).trans h
/-! strings.Repeat -/
def strings_Repeat.f (_k : Nat) (a0 : ByteArray) (a1 : Int) : Option ByteArray := repRun a0 a1
def strings_Repeat.K : Ctr := repCtr
theorem strings_Repeat.ok : CtrOk Try.prog 82 strings_Repeat.K := rep82
/-! impl.padding -/
noncomputable def impl_padding.c : Code := bodyOf Try.f93
def impl_padding.h : Nat → Hint := look ⟨[], [], []⟩ []
def impl_padding.ps : List PK := [.one]
def impl_padding.rs : List RK := [.one true]
def impl_padding.vs : List ResultVar := [.tmp 2]
def impl_padding.x : Cx := ⟨tt, look none [(82, some strings_Repeat.K), (29, some impl_NumberText.K)]⟩
def impl_padding.f (k : Nat) (a0 : Int) : Option (ByteArray) :=
  (strings_Repeat.f k (⟨#[0]⟩ : ByteArray) ((IntKind.i64.wrap ((119 : Int) - (a0.tmod (64 : Int)))).tmod (64 : Int))).bind fun r1 => (bif decide ((⟨#[128]⟩ : ByteArray).size + r1.size ≤ 140737488351232) then (impl_NumberText.f k ((IntKind.i64.wrap ((8 : Int) * a0)).fdiv (2 ^ 32))).bind fun r2 => (bif decide (((⟨#[128]⟩ : ByteArray) ++ r1).size + r2.size ≤ 140737488351232) then (impl_NumberText.f k (IntKind.i64.wrap (((BitVec.ofInt IntKind.i64.bits (IntKind.i64.wrap ((8 : Int) * a0))) &&& (BitVec.ofInt IntKind.i64.bits (4294967295 : Int))).toNat : Int))).bind fun r3 => (bif decide ((((⟨#[128]⟩ : ByteArray) ++ r1) ++ r2).size + r3.size ≤ 140737488351232) then some ((((⟨#[128]⟩ : ByteArray) ++ r1) ++ r2) ++ r3) else none) else none) else none)
def impl_padding.K : Ctr := ⟨impl_padding.ps, impl_padding.rs, false, (.int .i64), .str, fun k x => impl_padding.f k x⟩
theorem impl_padding.eq (k : Nat) (x : (impl_padding.K.I).den) : func impl_padding.x impl_padding.h impl_padding.ps impl_padding.rs impl_padding.vs impl_padding.K.I impl_padding.K.O impl_padding.c k x = impl_padding.K.run k x := by
  show _ = impl_padding.f k x
  kernel_rfl
theorem impl_padding.ok : CtrOk Try.prog 93 impl_padding.K :=
  CtrOk.of (fn := Try.f93) (cd := impl_padding.c) (cx := impl_padding.x) (hs := impl_padding.h) (by kernel_rfl) (by kernel_rfl) (by kernel_rfl) (by kernel_rfl) tt_ok (envOk_cons strings_Repeat.ok (envOk_cons impl_NumberText.ok (envOk_nil))) (by kernel_rfl) (by kernel_rfl) (by kernel_rfl) (by kernel_rfl) fun k x r h => (impl_padding.eq k x).trans h
/-! impl.constants -/
noncomputable def impl_constants.c : Code := bodyOf Try.f110
def impl_constants.h : Nat → Hint := look ⟨[], [], []⟩ []
def impl_constants.ps : List PK := []
def impl_constants.rs : List RK := [.agg 64 true]
def impl_constants.vs : List ResultVar := [.cell 0 124]
def impl_constants.x : Cx := ⟨tt, look none []⟩
def impl_constants.f (_k : Nat) : Option (Int × Int × Int × Int × Int × Int × Int × Int × Int × Int × Int × Int × Int × Int × Int × Int × Int × Int × Int × Int × Int × Int × Int × Int × Int × Int × Int × Int × Int × Int × Int × Int × Int × Int × Int × Int × Int × Int × Int × Int × Int × Int × Int × Int × Int × Int × Int × Int × Int × Int × Int × Int × Int × Int × Int × Int × Int × Int × Int × Int × Int × Int × Int × Int) :=
  some ((1116352408 : Int), (1899447441 : Int), (3049323471 : Int), (3921009573 : Int), (961987163 : Int), (1508970993 : Int), (2453635748 : Int), (2870763221 : Int), (3624381080 : Int), (310598401 : Int), (607225278 : Int), (1426881987 : Int), (1925078388 : Int), (2162078206 : Int), (2614888103 : Int), (3248222580 : Int), (3835390401 : Int), (4022224774 : Int), (264347078 : Int), (604807628 : Int), (770255983 : Int), (1249150122 : Int), (1555081692 : Int), (1996064986 : Int), (2554220882 : Int), (2821834349 : Int), (2952996808 : Int), (3210313671 : Int), (3336571891 : Int), (3584528711 : Int), (113926993 : Int), (338241895 : Int), (666307205 : Int), (773529912 : Int), (1294757372 : Int), (1396182291 : Int), (1695183700 : Int), (1986661051 : Int), (2177026350 : Int), (2456956037 : Int), (2730485921 : Int), (2820302411 : Int), (3259730800 : Int), (3345764771 : Int), (3516065817 : Int), (3600352804 : Int), (4094571909 : Int), (275423344 : Int), (430227734 : Int), (506948616 : Int), (659060556 : Int), (883997877 : Int), (958139571 : Int), (1322822218 : Int), (1537002063 : Int), (1747873779 : Int), (1955562222 : Int), (2024104815 : Int), (2227730452 : Int), (2361852424 : Int), (2428436474 : Int), (2756734187 : Int), (3204031479 : Int), (3329325298 : Int))
def impl_constants.K : Ctr := ⟨impl_constants.ps, impl_constants.rs, false, .unit, (.two (.int .i64) (.two (.int .i64) (.two (.int .i64) (.two (.int .i64) (.two (.int .i64) (.two (.int .i64) (.two (.int .i64) (.two (.int .i64) (.two (.int .i64) (.two (.int .i64) (.two (.int .i64) (.two (.int .i64) (.two (.int .i64) (.two (.int .i64) (.two (.int .i64) (.two (.int .i64) (.two (.int .i64) (.two (.int .i64) (.two (.int .i64) (.two (.int .i64) (.two (.int .i64) (.two (.int .i64) (.two (.int .i64) (.two (.int .i64) (.two (.int .i64) (.two (.int .i64) (.two (.int .i64) (.two (.int .i64) (.two (.int .i64) (.two (.int .i64) (.two (.int .i64) (.two (.int .i64) (.two (.int .i64) (.two (.int .i64) (.two (.int .i64) (.two (.int .i64) (.two (.int .i64) (.two (.int .i64) (.two (.int .i64) (.two (.int .i64) (.two (.int .i64) (.two (.int .i64) (.two (.int .i64) (.two (.int .i64) (.two (.int .i64) (.two (.int .i64) (.two (.int .i64) (.two (.int .i64) (.two (.int .i64) (.two (.int .i64) (.two (.int .i64) (.two (.int .i64) (.two (.int .i64) (.two (.int .i64) (.two (.int .i64) (.two (.int .i64) (.two (.int .i64) (.two (.int .i64) (.two (.int .i64) (.two (.int .i64) (.two (.int .i64) (.two (.int .i64) (.two (.int .i64) (.int .i64)))))))))))))))))))))))))))))))))))))))))))))))))))))))))))))))), fun k _ => impl_constants.f k⟩
theorem impl_constants.eq (k : Nat) (x : (impl_constants.K.I).den) : func impl_constants.x impl_constants.h impl_constants.ps impl_constants.rs impl_constants.vs impl_constants.K.I impl_constants.K.O impl_constants.c k x = impl_constants.K.run k x := by
  show _ = impl_constants.f k
  kernel_rfl
theorem impl_constants.ok : CtrOk Try.prog 110 impl_constants.K :=
  CtrOk.of (fn := Try.f110) (cd := impl_constants.c) (cx := impl_constants.x) (hs := impl_constants.h) (by kernel_rfl) (by kernel_rfl) (by kernel_rfl) (by kernel_rfl) tt_ok (envOk_nil) (by kernel_rfl) (by kernel_rfl) (by kernel_rfl) (by kernel_rfl) fun k x r h => (impl_constants.eq k x).trans h
/-! impl.ReadNumber -/
noncomputable def impl_ReadNumber.c : Code := bodyOf Try.f68
def impl_ReadNumber.h : Nat → Hint := look ⟨[], [], []⟩ []
def impl_ReadNumber.ps : List PK := [.one]
def impl_ReadNumber.rs : List RK := [.one true, .one true]
def impl_ReadNumber.vs : List ResultVar := [.tmp 2, .tmp 3]
def impl_ReadNumber.x : Cx := ⟨tt, look none []⟩
def impl_ReadNumber.f (_k : Nat) (a0 : ByteArray) : Option (Int × Bool) :=
  (bif ((a0.size : Int) != (4 : Int)) then some ((0 : Int), false) else (a0[0]?).bind fun c1 => (a0[1]?).bind fun c2 => (a0[2]?).bind fun c3 => (a0[3]?).bind fun c4 => some ((IntKind.i64.wrap (((BitVec.ofInt IntKind.i64.bits (IntKind.i64.wrap (((BitVec.ofInt IntKind.i64.bits (IntKind.i64.wrap (((BitVec.ofInt IntKind.i64.bits (IntKind.i64.wrap ((IntKind.i64.wrap (c1.toNat : Int)) * 2 ^ 24))) ||| (BitVec.ofInt IntKind.i64.bits (IntKind.i64.wrap ((IntKind.i64.wrap (c2.toNat : Int)) * 2 ^ 16)))).toNat : Int))) ||| (BitVec.ofInt IntKind.i64.bits (IntKind.i64.wrap ((IntKind.i64.wrap (c3.toNat : Int)) * 2 ^ 8)))).toNat : Int))) ||| (BitVec.ofInt IntKind.i64.bits (IntKind.i64.wrap (c4.toNat : Int)))).toNat : Int)), true))
def impl_ReadNumber.K : Ctr := ⟨impl_ReadNumber.ps, impl_ReadNumber.rs, false, .str, (.two (.int .i64) .bool), fun k x => impl_ReadNumber.f k x⟩
theorem impl_ReadNumber.eq (k : Nat) (x : (impl_ReadNumber.K.I).den) : func impl_ReadNumber.x impl_ReadNumber.h impl_ReadNumber.ps impl_ReadNumber.rs impl_ReadNumber.vs impl_ReadNumber.K.I impl_ReadNumber.K.O impl_ReadNumber.c k x = impl_ReadNumber.K.run k x := by
  show _ = impl_ReadNumber.f k x
  kernel_rfl
theorem impl_ReadNumber.ok : CtrOk Try.prog 68 impl_ReadNumber.K :=
  CtrOk.of (fn := Try.f68) (cd := impl_ReadNumber.c) (cx := impl_ReadNumber.x) (hs := impl_ReadNumber.h) (by kernel_rfl) (by kernel_rfl) (by kernel_rfl) (by kernel_rfl) tt_ok (envOk_nil) (by kernel_rfl) (by kernel_rfl) (by kernel_rfl) (by kernel_rfl) fun k x r h => (impl_ReadNumber.eq k x).trans h
end Go.Proofs.Ytpinehfjimphmaa.DI
