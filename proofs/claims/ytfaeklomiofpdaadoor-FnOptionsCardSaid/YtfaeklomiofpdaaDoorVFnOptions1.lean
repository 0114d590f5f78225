/- FnOptions: functions as plain Lean, in the machine of values. -/
import Derived.Test.YtfaeklomiofpdaaDoorVFnOptions0
namespace Go.Proofs.YtfaeklomiofpdaaDoor.DI
open Go
set_option linter.unusedVariables false
/-! laws.big -/
noncomputable def laws_big.c : Code := bodyOf Tryd.f15
def laws_big.h : Nat → Hint := look ⟨[], [], []⟩ []
def laws_big.ps : List PK := [.one]
def laws_big.rs : List RK := [.one true]
def laws_big.vs : List ResultVar := [.tmp 2]
def laws_big.x : Cx := ⟨tt, look none []⟩
def laws_big.f (_k : Nat) (a0 : List (Int)) : Option (Bool) :=
  some (decide ((a0.length : Int) > (1048576 : Int)))
def laws_big.K : Ctr := ⟨laws_big.ps, laws_big.rs, false, (.sl 5 (.int .u8)), .bool, fun k x => laws_big.f k x⟩
theorem laws_big.eq (k : Nat) (x : (laws_big.K.I).den) : func laws_big.x laws_big.h laws_big.ps laws_big.rs laws_big.vs laws_big.K.I laws_big.K.O laws_big.c k x = laws_big.K.run k x := by
  show _ = laws_big.f k x
  kernel_rfl
theorem laws_big.ok : CtrOk Tryd.prog 15 laws_big.K :=
  CtrOk.of (fn := Tryd.f15) (cd := laws_big.c) (cx := laws_big.x) (hs := laws_big.h) (by kernel_rfl) (by kernel_rfl) (by kernel_rfl) (by kernel_rfl) tt_ok (envOk_nil) (by kernel_rfl) (by kernel_rfl) (by kernel_rfl) (by kernel_rfl) fun k x r h => (laws_big.eq k x).trans h
/-! spec.l01New -/
noncomputable def spec_l01New.c : Code := bodyOf Tryd.f38
def spec_l01New.h : Nat → Hint := look ⟨[], [], []⟩ [(0, ⟨[0, 3, 4], [], []⟩)]
def spec_l01New.ps : List PK := [.one]
def spec_l01New.rs : List RK := [.ptr 76 3 false]
def spec_l01New.vs : List ResultVar := [.tmp 2]
def spec_l01New.x : Cx := ⟨tt, look none []⟩
def spec_l01New.s0 (_k : Nat) (rec0 : (Int × Int × (List (Int))) → Option ((List (Int)) × Int × Int)) (p : (Int × Int × (List (Int)))) : Option ((List (Int)) × Int × Int) :=
  (bif (decide (p.2.1 < (p.2.2.length : Int))) then (bif (decide (p.2.1 < (4000 : Int))) then (bif ((decide ((0 : Int) ≤ p.2.1)) && (decide (p.2.1 < (p.2.2.length : Int)))) then (p.2.2[p.2.1.toNat]?).bind fun x1 => rec0 ((IntKind.i64.wrap (((BitVec.ofInt IntKind.i64.bits (IntKind.i64.wrap ((IntKind.i64.wrap ((IntKind.i64.wrap (p.1 * (131 : Int))) + (IntKind.i64.wrap x1))) + (7 : Int)))) &&& (BitVec.ofInt IntKind.i64.bits (1073741823 : Int))).toNat : Int)), (IntKind.i64.wrap (p.2.1 + (1 : Int))), p.2.2) else none) else some (p.2.2, (0 : Int), p.1)) else some (p.2.2, (0 : Int), p.1))
def spec_l01New.l0 (k : Nat) : Nat → (Int × Int × (List (Int))) → Option ((List (Int)) × Int × Int)
  | 0 => fun _ => none
  | j + 1 => spec_l01New.s0 k (spec_l01New.l0 k j)
def spec_l01New.S0 (p : (Int × Int × (List (Int)))) : DS := ⟨tl [(0, .at (.whole 0)), (3, .at (.int .i64 p.1)), (4, .at (.int .i64 p.2.1))], lookO [(0, .row 5 (.int .u8) false p.2.2)]⟩
noncomputable def spec_l01New.D0 (k : Nat) (j : Nat) (p : (Int × Int × (List (Int)))) : Option ((List (Int)) × Int × Int) := loopK (norm [0] (spec_l01New.h 0)) (runK spec_l01New.x k 0 [0] spec_l01New.h 0 (sub spec_l01New.c [1, 1, 0, 1, 0, 0])) j (spec_l01New.S0 p) (kBlk 0 (kSeq (runK spec_l01New.x k 0 [0] spec_l01New.h 0 (sub spec_l01New.c [1, 1, 1])) (fin tt spec_l01New.ps spec_l01New.rs spec_l01New.vs (.two (.sl 5 (.int .u8)) (.two (.int .i64) (.int .i64))))))
theorem spec_l01New.D0_eq (k : Nat) : ∀ j, spec_l01New.D0 k j = spec_l01New.l0 k j := by
  intro j
  induction j with
  | zero => rfl
  | succ j ih =>
    show _ = spec_l01New.s0 k (spec_l01New.l0 k j)
    rw [← ih]
    funext p
    kernel_rfl
def spec_l01New.f (k : Nat) (a0 : List (Int)) : Option ((List (Int)) × Int × Int) :=
  spec_l01New.l0 k k ((IntKind.i64.wrap ((36201 : Int) + (a0.length : Int))), (0 : Int), a0)
def spec_l01New.K : Ctr := ⟨spec_l01New.ps, spec_l01New.rs, true, (.sl 5 (.int .u8)), (.two (.sl 5 (.int .u8)) (.two (.int .i64) (.int .i64))), fun k x => spec_l01New.f k x⟩
theorem spec_l01New.eq (k : Nat) (x : (spec_l01New.K.I).den) : func spec_l01New.x spec_l01New.h spec_l01New.ps spec_l01New.rs spec_l01New.vs spec_l01New.K.I spec_l01New.K.O spec_l01New.c k x = spec_l01New.K.run k x := by
  show _ = spec_l01New.f k x
  unfold spec_l01New.f
  rw [← spec_l01New.D0_eq k k]
  kernel_rfl
theorem spec_l01New.ok : CtrOk Tryd.prog 38 spec_l01New.K :=
  CtrOk.of (fn := Tryd.f38) (cd := spec_l01New.c) (cx := spec_l01New.x) (hs := spec_l01New.h) (by kernel_rfl) (by kernel_rfl) (by kernel_rfl) (by kernel_rfl) tt_ok (envOk_nil) (by kernel_rfl) (by kernel_rfl) (by kernel_rfl) (by kernel_rfl) fun k x r h => (spec_l01New.eq k x).trans h
/-! spec.l01Byte -/
noncomputable def spec_l01Byte.c : Code := bodyOf Tryd.f64
def spec_l01Byte.h : Nat → Hint := look ⟨[], [], []⟩ []
def spec_l01Byte.ps : List PK := [.box 76 3]
def spec_l01Byte.rs : List RK := [.one true]
def spec_l01Byte.vs : List ResultVar := [.tmp 2]
def spec_l01Byte.x : Cx := ⟨tt, look none []⟩
def spec_l01Byte.f (_k : Nat) (a0_0 : List (Int)) (a0_1 : Int) (a0_2 : Int) : Option (Int × (List (Int)) × Int × Int) :=
  (bif (decide (a0_1 < (a0_0.length : Int))) then (bif ((decide ((0 : Int) ≤ a0_1)) && (decide (a0_1 < (a0_0.length : Int)))) then (a0_0[a0_1.toNat]?).bind fun x1 => some ((IntKind.i64.wrap (((BitVec.ofInt IntKind.i64.bits (IntKind.i64.wrap ((IntKind.i64.wrap (((BitVec.ofInt IntKind.i64.bits (IntKind.i64.wrap (((BitVec.ofInt IntKind.i64.bits ((IntKind.i64.wrap ((IntKind.i64.wrap (a0_2 * (6364136223846793005 : Int))) + (1442695040888963407 : Int))).fdiv (2 ^ 33))) ^^^ (BitVec.ofInt IntKind.i64.bits ((IntKind.i64.wrap ((IntKind.i64.wrap (a0_2 * (6364136223846793005 : Int))) + (1442695040888963407 : Int))).fdiv (2 ^ 45)))).toNat : Int))) &&& (BitVec.ofInt IntKind.i64.bits (255 : Int))).toNat : Int)) + (IntKind.i64.wrap x1)))) &&& (BitVec.ofInt IntKind.i64.bits (255 : Int))).toNat : Int)), a0_0, (IntKind.i64.wrap (a0_1 + (1 : Int))), (IntKind.i64.wrap ((IntKind.i64.wrap (a0_2 * (6364136223846793005 : Int))) + (1442695040888963407 : Int)))) else none) else some ((IntKind.i64.wrap (((BitVec.ofInt IntKind.i64.bits (IntKind.i64.wrap (((BitVec.ofInt IntKind.i64.bits ((IntKind.i64.wrap ((IntKind.i64.wrap (a0_2 * (6364136223846793005 : Int))) + (1442695040888963407 : Int))).fdiv (2 ^ 33))) ^^^ (BitVec.ofInt IntKind.i64.bits ((IntKind.i64.wrap ((IntKind.i64.wrap (a0_2 * (6364136223846793005 : Int))) + (1442695040888963407 : Int))).fdiv (2 ^ 45)))).toNat : Int))) &&& (BitVec.ofInt IntKind.i64.bits (255 : Int))).toNat : Int)), a0_0, a0_1, (IntKind.i64.wrap ((IntKind.i64.wrap (a0_2 * (6364136223846793005 : Int))) + (1442695040888963407 : Int)))))
def spec_l01Byte.K : Ctr := ⟨spec_l01Byte.ps, spec_l01Byte.rs, true, (.two (.sl 5 (.int .u8)) (.two (.int .i64) (.int .i64))), (.two (.int .i64) (.two (.sl 5 (.int .u8)) (.two (.int .i64) (.int .i64)))), fun k x => spec_l01Byte.f k x.1 x.2.1 x.2.2⟩
theorem spec_l01Byte.eq (k : Nat) (x : (spec_l01Byte.K.I).den) : func spec_l01Byte.x spec_l01Byte.h spec_l01Byte.ps spec_l01Byte.rs spec_l01Byte.vs spec_l01Byte.K.I spec_l01Byte.K.O spec_l01Byte.c k x = spec_l01Byte.K.run k x := by
  show _ = spec_l01Byte.f k x.1 x.2.1 x.2.2
  kernel_rfl
theorem spec_l01Byte.ok : CtrOk Tryd.prog 64 spec_l01Byte.K :=
  CtrOk.of (fn := Tryd.f64) (cd := spec_l01Byte.c) (cx := spec_l01Byte.x) (hs := spec_l01Byte.h) (by kernel_rfl) (by kernel_rfl) (by kernel_rfl) (by kernel_rfl) tt_ok (envOk_nil) (by kernel_rfl) (by kernel_rfl) (by kernel_rfl) (by kernel_rfl) fun k x r h => (spec_l01Byte.eq k x).trans h
/-! spec.l01Below -/
noncomputable def spec_l01Below.c : Code := bodyOf Tryd.f43
def spec_l01Below.h : Nat → Hint := look ⟨[], [], []⟩ []
def spec_l01Below.ps : List PK := [.box 76 3, .one]
def spec_l01Below.rs : List RK := [.one true]
def spec_l01Below.vs : List ResultVar := [.tmp 4]
def spec_l01Below.x : Cx := ⟨tt, look none [(64, some spec_l01Byte.K)]⟩
def spec_l01Below.f (k : Nat) (a0_0 : List (Int)) (a0_1 : Int) (a0_2 : Int) (a1 : Int) : Option (Int × (List (Int)) × Int × Int) :=
  (bif (decide (a1 ≤ (0 : Int))) then some ((0 : Int), a0_0, a0_1, a0_2) else (bif (decide (a1 ≤ (256 : Int))) then (spec_l01Byte.f k a0_0 a0_1 a0_2).bind fun r1 => (bif (a1 == 0) then none else some ((r1.1.tmod a1), r1.2.1, r1.2.2.1, r1.2.2.2)) else (spec_l01Byte.f k a0_0 a0_1 a0_2).bind fun r2 => (spec_l01Byte.f k r2.2.1 r2.2.2.1 r2.2.2.2).bind fun r3 => (spec_l01Byte.f k r3.2.1 r3.2.2.1 r3.2.2.2).bind fun r4 => (spec_l01Byte.f k r4.2.1 r4.2.2.1 r4.2.2.2).bind fun r5 => (bif (a1 == 0) then none else some (((IntKind.i64.wrap ((IntKind.i64.wrap ((IntKind.i64.wrap ((IntKind.i64.wrap (r2.1 * (16777216 : Int))) + (IntKind.i64.wrap (r3.1 * (65536 : Int))))) + (IntKind.i64.wrap (r4.1 * (256 : Int))))) + r5.1)).tmod a1), r5.2.1, r5.2.2.1, r5.2.2.2))))
def spec_l01Below.K : Ctr := ⟨spec_l01Below.ps, spec_l01Below.rs, true, (.two (.sl 5 (.int .u8)) (.two (.int .i64) (.two (.int .i64) (.int .i64)))), (.two (.int .i64) (.two (.sl 5 (.int .u8)) (.two (.int .i64) (.int .i64)))), fun k x => spec_l01Below.f k x.1 x.2.1 x.2.2.1 x.2.2.2⟩
theorem spec_l01Below.eq (k : Nat) (x : (spec_l01Below.K.I).den) : func spec_l01Below.x spec_l01Below.h spec_l01Below.ps spec_l01Below.rs spec_l01Below.vs spec_l01Below.K.I spec_l01Below.K.O spec_l01Below.c k x = spec_l01Below.K.run k x := by
  show _ = spec_l01Below.f k x.1 x.2.1 x.2.2.1 x.2.2.2
  kernel_rfl
theorem spec_l01Below.ok : CtrOk Tryd.prog 43 spec_l01Below.K :=
  CtrOk.of (fn := Tryd.f43) (cd := spec_l01Below.c) (cx := spec_l01Below.x) (hs := spec_l01Below.h) (by kernel_rfl) (by kernel_rfl) (by kernel_rfl) (by kernel_rfl) tt_ok (envOk_cons spec_l01Byte.ok (envOk_nil)) (by kernel_rfl) (by kernel_rfl) (by kernel_rfl) (by kernel_rfl) fun k x r h => (spec_l01Below.eq k x).trans h
/-! spec.l01Once -/
noncomputable def spec_l01Once.c : Code := bodyOf Tryd.f61
def spec_l01Once.h : Nat → Hint := look ⟨[], [], []⟩ []
def spec_l01Once.ps : List PK := [.box 76 3, .one]
def spec_l01Once.rs : List RK := [.one true]
def spec_l01Once.vs : List ResultVar := [.tmp 4]
def spec_l01Once.x : Cx := ⟨tt, look none [(43, some spec_l01Below.K)]⟩
def spec_l01Once.f (k : Nat) (a0_0 : List (Int)) (a0_1 : Int) (a0_2 : Int) (a1 : Int) : Option (Bool × (List (Int)) × Int × Int) :=
  (spec_l01Below.f k a0_0 a0_1 a0_2 a1).bind fun r1 => some ((r1.1 == (0 : Int)), r1.2.1, r1.2.2.1, r1.2.2.2)
def spec_l01Once.K : Ctr := ⟨spec_l01Once.ps, spec_l01Once.rs, true, (.two (.sl 5 (.int .u8)) (.two (.int .i64) (.two (.int .i64) (.int .i64)))), (.two .bool (.two (.sl 5 (.int .u8)) (.two (.int .i64) (.int .i64)))), fun k x => spec_l01Once.f k x.1 x.2.1 x.2.2.1 x.2.2.2⟩
theorem spec_l01Once.eq (k : Nat) (x : (spec_l01Once.K.I).den) : func spec_l01Once.x spec_l01Once.h spec_l01Once.ps spec_l01Once.rs spec_l01Once.vs spec_l01Once.K.I spec_l01Once.K.O spec_l01Once.c k x = spec_l01Once.K.run k x := by
  show _ = spec_l01Once.f k x.1 x.2.1 x.2.2.1 x.2.2.2
  kernel_rfl
theorem spec_l01Once.ok : CtrOk Tryd.prog 61 spec_l01Once.K :=
  CtrOk.of (fn := Tryd.f61) (cd := spec_l01Once.c) (cx := spec_l01Once.x) (hs := spec_l01Once.h) (by kernel_rfl) (by kernel_rfl) (by kernel_rfl) (by kernel_rfl) tt_ok (envOk_cons spec_l01Below.ok (envOk_nil)) (by kernel_rfl) (by kernel_rfl) (by kernel_rfl) (by kernel_rfl) fun k x r h => (spec_l01Once.eq k x).trans h
/-! spec.l01Pick -/
noncomputable def spec_l01Pick.c : Code := bodyOf Tryd.f44
def spec_l01Pick.h : Nat → Hint := look ⟨[], [], []⟩ []
def spec_l01Pick.ps : List PK := [.box 76 3, .one]
def spec_l01Pick.rs : List RK := [.one true]
def spec_l01Pick.vs : List ResultVar := [.tmp 4]
def spec_l01Pick.x : Cx := ⟨tt, look none [(43, some spec_l01Below.K)]⟩
def spec_l01Pick.f (k : Nat) (a0_0 : List (Int)) (a0_1 : Int) (a0_2 : Int) (a1 : List (ByteArray)) : Option (ByteArray × (List (Int)) × Int × Int) :=
  (spec_l01Below.f k a0_0 a0_1 a0_2 (a1.length : Int)).bind fun r1 => (bif ((decide ((0 : Int) ≤ r1.1)) && (decide (r1.1 < (a1.length : Int)))) then (a1[r1.1.toNat]?).bind fun x2 => some (x2, r1.2.1, r1.2.2.1, r1.2.2.2) else none)
def spec_l01Pick.K : Ctr := ⟨spec_l01Pick.ps, spec_l01Pick.rs, true, (.two (.sl 5 (.int .u8)) (.two (.int .i64) (.two (.int .i64) (.sl 9 .str)))), (.two .str (.two (.sl 5 (.int .u8)) (.two (.int .i64) (.int .i64)))), fun k x => spec_l01Pick.f k x.1 x.2.1 x.2.2.1 x.2.2.2⟩
theorem spec_l01Pick.eq (k : Nat) (x : (spec_l01Pick.K.I).den) : func spec_l01Pick.x spec_l01Pick.h spec_l01Pick.ps spec_l01Pick.rs spec_l01Pick.vs spec_l01Pick.K.I spec_l01Pick.K.O spec_l01Pick.c k x = spec_l01Pick.K.run k x := by
  show _ = spec_l01Pick.f k x.1 x.2.1 x.2.2.1 x.2.2.2
  kernel_rfl
theorem spec_l01Pick.ok : CtrOk Tryd.prog 44 spec_l01Pick.K :=
  CtrOk.of (fn := Tryd.f44) (cd := spec_l01Pick.c) (cx := spec_l01Pick.x) (hs := spec_l01Pick.h) (by kernel_rfl) (by kernel_rfl) (by kernel_rfl) (by kernel_rfl) tt_ok (envOk_cons spec_l01Below.ok (envOk_nil)) (by kernel_rfl) (by kernel_rfl) (by kernel_rfl) (by kernel_rfl) fun k x r h => (spec_l01Pick.eq k x).trans h
/-! spec.l15Has -/
noncomputable def spec_l15Has.c : Code := bodyOf Tryd.f41
def spec_l15Has.h : Nat → Hint := look ⟨[], [], []⟩ [(0, ⟨[0, 1, 5], [], []⟩)]
def spec_l15Has.ps : List PK := [.one, .one]
def spec_l15Has.rs : List RK := [.one true]
def spec_l15Has.vs : List ResultVar := [.tmp 4]
def spec_l15Has.x : Cx := ⟨tt, look none []⟩
def spec_l15Has.s0 (_k : Nat) (rec0 : (ByteArray × Int × (List (ByteArray))) → Option (Bool)) (p : (ByteArray × Int × (List (ByteArray)))) : Option (Bool) :=
  (bif (decide (p.2.1 < (p.2.2.length : Int))) then (bif ((decide ((0 : Int) ≤ p.2.1)) && (decide (p.2.1 < (p.2.2.length : Int)))) then (p.2.2[p.2.1.toNat]?).bind fun x1 => (bif (x1.toList == p.1.toList) then some true else rec0 (p.1, (IntKind.i64.wrap (p.2.1 + (1 : Int))), p.2.2)) else none) else some false)
def spec_l15Has.l0 (k : Nat) : Nat → (ByteArray × Int × (List (ByteArray))) → Option (Bool)
  | 0 => fun _ => none
  | j + 1 => spec_l15Has.s0 k (spec_l15Has.l0 k j)
def spec_l15Has.S0 (p : (ByteArray × Int × (List (ByteArray)))) : DS := ⟨tl [(0, .at (.whole 0)), (1, .at (.str p.1)), (5, .at (.int .i64 p.2.1))], lookO [(0, .row 9 .str false p.2.2)]⟩
noncomputable def spec_l15Has.D0 (k : Nat) (j : Nat) (p : (ByteArray × Int × (List (ByteArray)))) : Option (Bool) := loopK (norm [0] (spec_l15Has.h 0)) (runK spec_l15Has.x k 0 [0] spec_l15Has.h 0 (sub spec_l15Has.c [1, 0, 1, 0, 0])) j (spec_l15Has.S0 p) (kBlk 0 (kSeq (runK spec_l15Has.x k 0 [0] spec_l15Has.h 0 (sub spec_l15Has.c [1, 1])) (fin tt spec_l15Has.ps spec_l15Has.rs spec_l15Has.vs .bool)))
theorem spec_l15Has.D0_eq (k : Nat) : ∀ j, spec_l15Has.D0 k j = spec_l15Has.l0 k j := by
  intro j
  induction j with
  | zero => rfl
  | succ j ih =>
    show _ = spec_l15Has.s0 k (spec_l15Has.l0 k j)
    rw [← ih]
    funext p
    kernel_rfl
def spec_l15Has.f (k : Nat) (a0 : List (ByteArray)) (a1 : ByteArray) : Option (Bool) :=
  spec_l15Has.l0 k k (a1, (0 : Int), a0)
def spec_l15Has.K : Ctr := ⟨spec_l15Has.ps, spec_l15Has.rs, false, (.two (.sl 9 .str) .str), .bool, fun k x => spec_l15Has.f k x.1 x.2⟩
theorem spec_l15Has.eq (k : Nat) (x : (spec_l15Has.K.I).den) : func spec_l15Has.x spec_l15Has.h spec_l15Has.ps spec_l15Has.rs spec_l15Has.vs spec_l15Has.K.I spec_l15Has.K.O spec_l15Has.c k x = spec_l15Has.K.run k x := by
  show _ = spec_l15Has.f k x.1 x.2
  unfold spec_l15Has.f
  rw [← spec_l15Has.D0_eq k k]
  kernel_rfl
theorem spec_l15Has.ok : CtrOk Tryd.prog 41 spec_l15Has.K :=
  CtrOk.of (fn := Tryd.f41) (cd := spec_l15Has.c) (cx := spec_l15Has.x) (hs := spec_l15Has.h) (by kernel_rfl) (by kernel_rfl) (by kernel_rfl) (by kernel_rfl) tt_ok (envOk_nil) (by kernel_rfl) (by kernel_rfl) (by kernel_rfl) (by kernel_rfl) fun k x r h => (spec_l15Has.eq k x).trans h
/-! spec.l15Options -/
noncomputable def spec_l15Options.c : Code := bodyOf Tryd.f39
def spec_l15Options.h : Nat → Hint := look ⟨[], [], []⟩ [(0, ⟨[0, 2, 3, 4], [32, 48], [(.b 32 1, 544, 9, .str), (.b 48 1, 545, 9, .str), (.b 0 0, 546, 5, (.int .u8))]⟩)]
def spec_l15Options.ps : List PK := [.box 76 3]
def spec_l15Options.rs : List RK := [.agg 3 true]
def spec_l15Options.vs : List ResultVar := [.cell 2 28]
def spec_l15Options.x : Cx := ⟨tt, look none [(43, some spec_l01Below.K), (61, some spec_l01Once.K), (44, some spec_l01Pick.K), (41, some spec_l15Has.K)]⟩
def spec_l15Options.s0 (k : Nat) (rec0 : (Int × Int × Int × (List (Int)) × Int × Bool × Int × Bool × (List (ByteArray)) × (List (ByteArray)) × (List (Int))) → Option (Int × (List (ByteArray)) × Bool × (List (Int)) × Int × Int)) (p : (Int × Int × Int × (List (Int)) × Int × Bool × Int × Bool × (List (ByteArray)) × (List (ByteArray)) × (List (Int)))) : Option (Int × (List (ByteArray)) × Bool × (List (Int)) × Int × Int) :=
  (spec_l01Below.f k p.2.2.2.2.2.2.2.2.2.2 p.2.1 p.2.2.1 (4 : Int)).bind fun r3 => (bif (decide (p.1 < (IntKind.i64.wrap ((1 : Int) + r3.1)))) then (spec_l01Pick.f k r3.2.1 r3.2.2.1 r3.2.2.2 [(⟨#[97, 49]⟩ : ByteArray), (⟨#[98, 50]⟩ : ByteArray), (⟨#[99, 51]⟩ : ByteArray), (⟨#[100, 100]⟩ : ByteArray)]).bind fun r4 => (spec_l15Has.f k p.2.2.2.2.2.2.2.2.2.1 r4.1).bind fun r5 => (bif (!r5) then (bif decide ((p.2.2.2.2.2.2.2.2.2.1.length + [r4.1].length) * 16 ≤ 140737488355328) then rec0 ((IntKind.i64.wrap (p.1 + (1 : Int))), r4.2.2.1, r4.2.2.2, p.2.2.2.1, p.2.2.2.2.1, p.2.2.2.2.2.1, p.2.2.2.2.2.2.1, p.2.2.2.2.2.2.2.1, p.2.2.2.2.2.2.2.2.1, (p.2.2.2.2.2.2.2.2.2.1 ++ [r4.1]), r4.2.1) else none) else rec0 ((IntKind.i64.wrap (p.1 + (1 : Int))), r4.2.2.1, r4.2.2.2, p.2.2.2.1, p.2.2.2.2.1, p.2.2.2.2.2.1, p.2.2.2.2.2.2.1, p.2.2.2.2.2.2.2.1, p.2.2.2.2.2.2.2.2.1, p.2.2.2.2.2.2.2.2.2.1, r4.2.1)) else some (p.2.2.2.2.2.2.1, p.2.2.2.2.2.2.2.2.2.1, p.2.2.2.2.2.2.2.1, r3.2.1, r3.2.2.1, r3.2.2.2))
def spec_l15Options.l0 (k : Nat) : Nat → (Int × Int × Int × (List (Int)) × Int × Bool × Int × Bool × (List (ByteArray)) × (List (ByteArray)) × (List (Int))) → Option (Int × (List (ByteArray)) × Bool × (List (Int)) × Int × Int)
  | 0 => fun _ => none
  | j + 1 => spec_l15Options.s0 k (spec_l15Options.l0 k j)
def spec_l15Options.S0 (p : (Int × Int × Int × (List (Int)) × Int × Bool × Int × Bool × (List (ByteArray)) × (List (ByteArray)) × (List (Int)))) : DS := ⟨tl [(0, .at (.bptr 0 0)), (2, .at (.bptr 32 0)), (3, .at (.bptr 48 0)), (4, .at (.int .i64 p.1))], lookO [(0, .box 76 [.whole 546, .int .i64 p.2.1, .int .i64 p.2.2.1]), (1, .row 5 (.int .u8) false p.2.2.2.1), (32, .box 28 [.int .i64 p.2.2.2.2.1, .whole 544, .bool p.2.2.2.2.2.1]), (48, .box 28 [.int .i64 p.2.2.2.2.2.2.1, .whole 545, .bool p.2.2.2.2.2.2.2.1]), (544, .row 9 .str true p.2.2.2.2.2.2.2.2.1), (545, .row 9 .str true p.2.2.2.2.2.2.2.2.2.1), (546, .row 5 (.int .u8) false p.2.2.2.2.2.2.2.2.2.2)]⟩
noncomputable def spec_l15Options.D0 (k : Nat) (j : Nat) (p : (Int × Int × Int × (List (Int)) × Int × Bool × Int × Bool × (List (ByteArray)) × (List (ByteArray)) × (List (Int)))) : Option (Int × (List (ByteArray)) × Bool × (List (Int)) × Int × Int) := loopK (norm [0, 1] (spec_l15Options.h 0)) (runK spec_l15Options.x k 0 [0, 1] spec_l15Options.h 0 (sub spec_l15Options.c [1, 1, 0, 1, 0, 0])) j (spec_l15Options.S0 p) (kBlk 0 (kSeq (runK spec_l15Options.x k 0 [0, 1] spec_l15Options.h 0 (sub spec_l15Options.c [1, 1, 1])) (fin tt spec_l15Options.ps spec_l15Options.rs spec_l15Options.vs (.two (.int .i64) (.two (.sl 9 .str) (.two .bool (.two (.sl 5 (.int .u8)) (.two (.int .i64) (.int .i64)))))))))
theorem spec_l15Options.D0_eq (k : Nat) : ∀ j, spec_l15Options.D0 k j = spec_l15Options.l0 k j := by
  intro j
  induction j with
  | zero => rfl
  | succ j ih =>
    show _ = spec_l15Options.s0 k (spec_l15Options.l0 k j)
    rw [← ih]
    funext p
    kernel_rfl
def spec_l15Options.f (k : Nat) (a0_0 : List (Int)) (a0_1 : Int) (a0_2 : Int) : Option (Int × (List (ByteArray)) × Bool × (List (Int)) × Int × Int) :=
  (spec_l01Below.f k a0_0 a0_1 a0_2 (41 : Int)).bind fun r1 => (spec_l01Once.f k r1.2.1 r1.2.2.1 r1.2.2.2 (2 : Int)).bind fun r2 => spec_l15Options.l0 k k ((0 : Int), r2.2.2.1, r2.2.2.2, a0_0, (0 : Int), false, (IntKind.i64.wrap ((20 : Int) + r1.1)), r2.1, ([] : List (ByteArray)), ([] : List (ByteArray)), r2.2.1)
def spec_l15Options.K : Ctr := ⟨spec_l15Options.ps, spec_l15Options.rs, true, (.two (.sl 5 (.int .u8)) (.two (.int .i64) (.int .i64))), (.two (.int .i64) (.two (.sl 9 .str) (.two .bool (.two (.sl 5 (.int .u8)) (.two (.int .i64) (.int .i64)))))), fun k x => spec_l15Options.f k x.1 x.2.1 x.2.2⟩
theorem spec_l15Options.eq (k : Nat) (x : (spec_l15Options.K.I).den) : func spec_l15Options.x spec_l15Options.h spec_l15Options.ps spec_l15Options.rs spec_l15Options.vs spec_l15Options.K.I spec_l15Options.K.O spec_l15Options.c k x = spec_l15Options.K.run k x := by
  show _ = spec_l15Options.f k x.1 x.2.1 x.2.2
  unfold spec_l15Options.f
  rw [← spec_l15Options.D0_eq k k]
  kernel_rfl
theorem spec_l15Options.ok : CtrOk Tryd.prog 39 spec_l15Options.K :=
  CtrOk.of (fn := Tryd.f39) (cd := spec_l15Options.c) (cx := spec_l15Options.x) (hs := spec_l15Options.h) (by kernel_rfl) (by kernel_rfl) (by kernel_rfl) (by kernel_rfl) tt_ok (envOk_cons spec_l01Below.ok (envOk_cons spec_l01Once.ok (envOk_cons spec_l01Pick.ok (envOk_cons spec_l15Has.ok (envOk_nil))))) (by kernel_rfl) (by kernel_rfl) (by kernel_rfl) (by kernel_rfl) fun k x r h => (spec_l15Options.eq k x).trans h
/-! spec.DrawOptions -/
noncomputable def spec_DrawOptions.c : Code := bodyOf Tryd.f16
def spec_DrawOptions.h : Nat → Hint := look ⟨[], [], []⟩ []
def spec_DrawOptions.ps : List PK := [.one]
def spec_DrawOptions.rs : List RK := [.agg 3 true, .agg 3 true]
def spec_DrawOptions.vs : List ResultVar := [.cell 2 28, .cell 3 28]
def spec_DrawOptions.x : Cx := ⟨tt, look none [(38, some spec_l01New.K), (39, some spec_l15Options.K)]⟩
def spec_DrawOptions.f (k : Nat) (a0 : List (Int)) : Option (Int × (List (ByteArray)) × Bool × Int × (List (ByteArray)) × Bool) :=
  (spec_l01New.f k a0).bind fun r1 => (spec_l15Options.f k r1.1 r1.2.1 r1.2.2).bind fun r2 => (spec_l15Options.f k r2.2.2.2.1 r2.2.2.2.2.1 r2.2.2.2.2.2).bind fun r3 => some (r2.1, r2.2.1, r2.2.2.1, r3.1, r3.2.1, r3.2.2.1)
def spec_DrawOptions.K : Ctr := ⟨spec_DrawOptions.ps, spec_DrawOptions.rs, false, (.sl 5 (.int .u8)), (.two (.int .i64) (.two (.sl 9 .str) (.two .bool (.two (.int .i64) (.two (.sl 9 .str) .bool))))), fun k x => spec_DrawOptions.f k x⟩
theorem spec_DrawOptions.eq (k : Nat) (x : (spec_DrawOptions.K.I).den) : func spec_DrawOptions.x spec_DrawOptions.h spec_DrawOptions.ps spec_DrawOptions.rs spec_DrawOptions.vs spec_DrawOptions.K.I spec_DrawOptions.K.O spec_DrawOptions.c k x = spec_DrawOptions.K.run k x := by
  show _ = spec_DrawOptions.f k x
  kernel_rfl
theorem spec_DrawOptions.ok : CtrOk Tryd.prog 16 spec_DrawOptions.K :=
  CtrOk.of (fn := Tryd.f16) (cd := spec_DrawOptions.c) (cx := spec_DrawOptions.x) (hs := spec_DrawOptions.h) (by kernel_rfl) (by kernel_rfl) (by kernel_rfl) (by kernel_rfl) tt_ok (envOk_cons spec_l01New.ok (envOk_cons spec_l15Options.ok (envOk_nil))) (by kernel_rfl) (by kernel_rfl) (by kernel_rfl) (by kernel_rfl) fun k x r h => (spec_DrawOptions.eq k x).trans h
/-! impl.within -/
noncomputable def impl_within.c : Code := bodyOf Tryd.f47
def impl_within.h : Nat → Hint := look ⟨[], [], []⟩ []
def impl_within.ps : List PK := [.one, .one, .one]
def impl_within.rs : List RK := [.one true]
def impl_within.vs : List ResultVar := [.tmp 6]
def impl_within.x : Cx := ⟨tt, look none []⟩
def impl_within.f (_k : Nat) (a0 : Int) (a1 : Int) (a2 : Int) : Option (Bool) :=
  (bif (decide (a0 ≥ a1)) then some (decide (a0 ≤ a2)) else some false)
def impl_within.K : Ctr := ⟨impl_within.ps, impl_within.rs, false, (.two (.int .i64) (.two (.int .i64) (.int .i64))), .bool, fun k x => impl_within.f k x.1 x.2.1 x.2.2⟩
theorem impl_within.eq (k : Nat) (x : (impl_within.K.I).den) : func impl_within.x impl_within.h impl_within.ps impl_within.rs impl_within.vs impl_within.K.I impl_within.K.O impl_within.c k x = impl_within.K.run k x := by
  show _ = impl_within.f k x.1 x.2.1 x.2.2
  kernel_rfl
theorem impl_within.ok : CtrOk Tryd.prog 47 impl_within.K :=
  CtrOk.of (fn := Tryd.f47) (cd := impl_within.c) (cx := impl_within.x) (hs := impl_within.h) (by kernel_rfl) (by kernel_rfl) (by kernel_rfl) (by kernel_rfl) tt_ok (envOk_nil) (by kernel_rfl) (by kernel_rfl) (by kernel_rfl) (by kernel_rfl) fun k x r h => (impl_within.eq k x).trans h
/-! impl.wayOk -/
noncomputable def impl_wayOk.c : Code := bodyOf Tryd.f46
def impl_wayOk.h : Nat → Hint := look ⟨[], [], []⟩ [(0, ⟨[0, 3], [], []⟩)]
def impl_wayOk.ps : List PK := [.one]
def impl_wayOk.rs : List RK := [.one true]
def impl_wayOk.vs : List ResultVar := [.tmp 2]
def impl_wayOk.x : Cx := ⟨tt, look none [(47, some impl_within.K)]⟩
def impl_wayOk.s0 (k : Nat) (rec0 : (ByteArray × Int) → Option (Bool)) (p : (ByteArray × Int)) : Option (Bool) :=
  (bif (decide (p.2 < (p.1.size : Int))) then (bif (decide ((0 : Int) ≤ p.2)) then (p.1[p.2.toNat]?).bind fun c1 => (impl_within.f k (IntKind.i64.wrap (c1.toNat : Int)) (97 : Int) (122 : Int)).bind fun r2 => (bif (!r2) then (bif (decide ((0 : Int) ≤ p.2)) then (p.1[p.2.toNat]?).bind fun c3 => (impl_within.f k (IntKind.i64.wrap (c3.toNat : Int)) (48 : Int) (57 : Int)).bind fun r4 => (bif (!r4) then some false else rec0 (p.1, (IntKind.i64.wrap (p.2 + (1 : Int))))) else none) else rec0 (p.1, (IntKind.i64.wrap (p.2 + (1 : Int))))) else none) else (impl_within.f k (p.1.size : Int) (1 : Int) (8 : Int)).bind fun r5 => some r5)
def impl_wayOk.l0 (k : Nat) : Nat → (ByteArray × Int) → Option (Bool)
  | 0 => fun _ => none
  | j + 1 => impl_wayOk.s0 k (impl_wayOk.l0 k j)
def impl_wayOk.S0 (p : (ByteArray × Int)) : DS := ⟨tl [(0, .at (.str p.1)), (3, .at (.int .i64 p.2))], lookO []⟩
noncomputable def impl_wayOk.D0 (k : Nat) (j : Nat) (p : (ByteArray × Int)) : Option (Bool) := loopK (norm [] (impl_wayOk.h 0)) (runK impl_wayOk.x k 0 [] impl_wayOk.h 0 (sub impl_wayOk.c [1, 0, 1, 0, 0])) j (impl_wayOk.S0 p) (kBlk 0 (kSeq (runK impl_wayOk.x k 0 [] impl_wayOk.h 0 (sub impl_wayOk.c [1, 1])) (fin tt impl_wayOk.ps impl_wayOk.rs impl_wayOk.vs .bool)))
theorem impl_wayOk.D0_eq (k : Nat) : ∀ j, impl_wayOk.D0 k j = impl_wayOk.l0 k j := by
  intro j
  induction j with
  | zero => rfl
  | succ j ih =>
    show _ = impl_wayOk.s0 k (impl_wayOk.l0 k j)
    rw [← ih]
    funext p
    kernel_rfl
def impl_wayOk.f (k : Nat) (a0 : ByteArray) : Option (Bool) :=
  impl_wayOk.l0 k k (a0, (0 : Int))
def impl_wayOk.K : Ctr := ⟨impl_wayOk.ps, impl_wayOk.rs, false, .str, .bool, fun k x => impl_wayOk.f k x⟩
theorem impl_wayOk.eq (k : Nat) (x : (impl_wayOk.K.I).den) : func impl_wayOk.x impl_wayOk.h impl_wayOk.ps impl_wayOk.rs impl_wayOk.vs impl_wayOk.K.I impl_wayOk.K.O impl_wayOk.c k x = impl_wayOk.K.run k x := by
  show _ = impl_wayOk.f k x
  unfold impl_wayOk.f
  rw [← impl_wayOk.D0_eq k k]
  kernel_rfl
theorem impl_wayOk.ok : CtrOk Tryd.prog 46 impl_wayOk.K :=
  CtrOk.of (fn := Tryd.f46) (cd := impl_wayOk.c) (cx := impl_wayOk.x) (hs := impl_wayOk.h) (by kernel_rfl) (by kernel_rfl) (by kernel_rfl) (by kernel_rfl) tt_ok (envOk_cons impl_within.ok (envOk_nil)) (by kernel_rfl) (by kernel_rfl) (by kernel_rfl) (by kernel_rfl) fun k x r h => (impl_wayOk.eq k x).trans h
/-! slices.Index[[]string,string] -/
noncomputable def slices_Index_string_string.c : Code := bodyOf Tryd.f62
def slices_Index_string_string.h : Nat → Hint := look ⟨[], [], []⟩ [(0, ⟨[0, 1, 7, 8], [], []⟩)]
def slices_Index_string_string.ps : List PK := [.one, .one]
def slices_Index_string_string.rs : List RK := [.one true]
def slices_Index_string_string.vs : List ResultVar := [.tmp 4]
def slices_Index_string_string.x : Cx := ⟨tt, look none []⟩
def slices_Index_string_string.s0 (_k : Nat) (rec0 : (ByteArray × Int × Int × (List (ByteArray))) → Option (Int)) (p : (ByteArray × Int × Int × (List (ByteArray)))) : Option (Int) :=
  (bif (decide (p.2.2.1 < p.2.1)) then (bif ((decide ((0 : Int) ≤ p.2.2.1)) && (decide (p.2.2.1 < (p.2.2.2.length : Int)))) then (p.2.2.2[p.2.2.1.toNat]?).bind fun x1 => (bif (p.1.toList == x1.toList) then some p.2.2.1 else rec0 (p.1, p.2.1, (IntKind.i64.wrap (p.2.2.1 + (1 : Int))), p.2.2.2)) else none) else some (-1 : Int))
def slices_Index_string_string.l0 (k : Nat) : Nat → (ByteArray × Int × Int × (List (ByteArray))) → Option (Int)
  | 0 => fun _ => none
  | j + 1 => slices_Index_string_string.s0 k (slices_Index_string_string.l0 k j)
def slices_Index_string_string.S0 (p : (ByteArray × Int × Int × (List (ByteArray)))) : DS := ⟨tl [(0, .at (.whole 0)), (1, .at (.str p.1)), (7, .at (.int .i64 p.2.1)), (8, .at (.int .i64 p.2.2.1))], lookO [(0, .row 9 .str false p.2.2.2)]⟩
noncomputable def slices_Index_string_string.D0 (k : Nat) (j : Nat) (p : (ByteArray × Int × Int × (List (ByteArray)))) : Option (Int) := loopK (norm [0] (slices_Index_string_string.h 0)) (runK slices_Index_string_string.x k 0 [0] slices_Index_string_string.h 0 (sub slices_Index_string_string.c [1, 0, 1, 0, 0])) j (slices_Index_string_string.S0 p) (kBlk 0 (kSeq (runK slices_Index_string_string.x k 0 [0] slices_Index_string_string.h 0 (sub slices_Index_string_string.c [1, 1])) (fin tt slices_Index_string_string.ps slices_Index_string_string.rs slices_Index_string_string.vs (.int .i64))))
theorem slices_Index_string_string.D0_eq (k : Nat) : ∀ j, slices_Index_string_string.D0 k j = slices_Index_string_string.l0 k j := by
  intro j
  induction j with
  | zero => rfl
  | succ j ih =>
    show _ = slices_Index_string_string.s0 k (slices_Index_string_string.l0 k j)
    rw [← ih]
    funext p
    kernel_rfl
def slices_Index_string_string.f (k : Nat) (a0 : List (ByteArray)) (a1 : ByteArray) : Option (Int) :=
  slices_Index_string_string.l0 k k (a1, (a0.length : Int), (0 : Int), a0)
def slices_Index_string_string.K : Ctr := ⟨slices_Index_string_string.ps, slices_Index_string_string.rs, false, (.two (.sl 9 .str) .str), (.int .i64), fun k x => slices_Index_string_string.f k x.1 x.2⟩
theorem slices_Index_string_string.eq (k : Nat) (x : (slices_Index_string_string.K.I).den) : func slices_Index_string_string.x slices_Index_string_string.h slices_Index_string_string.ps slices_Index_string_string.rs slices_Index_string_string.vs slices_Index_string_string.K.I slices_Index_string_string.K.O slices_Index_string_string.c k x = slices_Index_string_string.K.run k x := by
  show _ = slices_Index_string_string.f k x.1 x.2
  unfold slices_Index_string_string.f
  rw [← slices_Index_string_string.D0_eq k k]
  kernel_rfl
theorem slices_Index_string_string.ok : CtrOk Tryd.prog 62 slices_Index_string_string.K :=
  CtrOk.of (fn := Tryd.f62) (cd := slices_Index_string_string.c) (cx := slices_Index_string_string.x) (hs := slices_Index_string_string.h) (by kernel_rfl) (by kernel_rfl) (by kernel_rfl) (by kernel_rfl) tt_ok (envOk_nil) (by kernel_rfl) (by kernel_rfl) (by kernel_rfl) (by kernel_rfl) fun k x r h => (slices_Index_string_string.eq k x).trans h
/-! slices.Contains[[]string,string] -/
noncomputable def slices_Contains_string_string.c : Code := bodyOf Tryd.f40
def slices_Contains_string_string.h : Nat → Hint := look ⟨[], [], []⟩ []
def slices_Contains_string_string.ps : List PK := [.one, .one]
def slices_Contains_string_string.rs : List RK := [.one true]
def slices_Contains_string_string.vs : List ResultVar := [.tmp 4]
def slices_Contains_string_string.x : Cx := ⟨tt, look none [(62, some slices_Index_string_string.K)]⟩
def slices_Contains_string_string.f (k : Nat) (a0 : List (ByteArray)) (a1 : ByteArray) : Option (Bool) :=
  (slices_Index_string_string.f k a0 a1).bind fun r1 => some (decide (r1 ≥ (0 : Int)))
def slices_Contains_string_string.K : Ctr := ⟨slices_Contains_string_string.ps, slices_Contains_string_string.rs, false, (.two (.sl 9 .str) .str), .bool, fun k x => slices_Contains_string_string.f k x.1 x.2⟩
theorem slices_Contains_string_string.eq (k : Nat) (x : (slices_Contains_string_string.K.I).den) : func slices_Contains_string_string.x slices_Contains_string_string.h slices_Contains_string_string.ps slices_Contains_string_string.rs slices_Contains_string_string.vs slices_Contains_string_string.K.I slices_Contains_string_string.K.O slices_Contains_string_string.c k x = slices_Contains_string_string.K.run k x := by
  show _ = slices_Contains_string_string.f k x.1 x.2
  kernel_rfl
theorem slices_Contains_string_string.ok : CtrOk Tryd.prog 40 slices_Contains_string_string.K :=
  CtrOk.of (fn := Tryd.f40) (cd := slices_Contains_string_string.c) (cx := slices_Contains_string_string.x) (hs := slices_Contains_string_string.h) (by kernel_rfl) (by kernel_rfl) (by kernel_rfl) (by kernel_rfl) tt_ok (envOk_cons slices_Index_string_string.ok (envOk_nil)) (by kernel_rfl) (by kernel_rfl) (by kernel_rfl) (by kernel_rfl) fun k x r h => (slices_Contains_string_string.eq k x).trans h
/-! impl.OptionsOk -/
noncomputable def impl_OptionsOk.c : Code := bodyOf Tryd.f21
def impl_OptionsOk.h : Nat → Hint := look ⟨[], [], []⟩ [(0, ⟨[1, 6, 7, 8], [16], []⟩)]
def impl_OptionsOk.ps : List PK := [.agg 3]
def impl_OptionsOk.rs : List RK := [.one true]
def impl_OptionsOk.vs : List ResultVar := [.tmp 2]
def impl_OptionsOk.x : Cx := ⟨tt, look none [(46, some impl_wayOk.K), (40, some slices_Contains_string_string.K), (47, some impl_within.K)]⟩
def impl_OptionsOk.s0 (k : Nat) (rec0 : (Int × Int × (List (ByteArray)) × Int × Bool) → Option (Bool)) (p : (Int × Int × (List (ByteArray)) × Int × Bool)) : Option (Bool) :=
  (bif (decide (p.2.1 < p.1)) then (bif ((decide ((0 : Int) ≤ p.2.1)) && (decide (p.2.1 < (p.2.2.1.length : Int)))) then (p.2.2.1[p.2.1.toNat]?).bind fun x1 => (impl_wayOk.f k x1).bind fun r2 => (bif (!r2) then some false else (bif ((decide ((0 : Int) ≤ p.2.1)) && (decide (p.2.1 ≤ (p.2.2.1.length : Int)))) then (slices_Contains_string_string.f k (p.2.2.1.take p.2.1.toNat) x1).bind fun r3 => (bif r3 then some false else rec0 (p.1, (IntKind.i64.wrap (p.2.1 + (1 : Int))), p.2.2.1, p.2.2.2.1, p.2.2.2.2)) else none)) else none) else (impl_within.f k p.2.2.2.1 (20 : Int) (60 : Int)).bind fun r4 => (bif r4 then (impl_within.f k (p.2.2.1.length : Int) (1 : Int) (4 : Int)).bind fun r5 => some r5 else some false))
def impl_OptionsOk.l0 (k : Nat) : Nat → (Int × Int × (List (ByteArray)) × Int × Bool) → Option (Bool)
  | 0 => fun _ => none
  | j + 1 => impl_OptionsOk.s0 k (impl_OptionsOk.l0 k j)
def impl_OptionsOk.S0 (p : (Int × Int × (List (ByteArray)) × Int × Bool)) : DS := ⟨tl [(1, .at (.bptr 16 0)), (6, .at (.whole 1)), (7, .at (.int .i64 p.1)), (8, .at (.int .i64 p.2.1))], lookO [(1, .row 9 .str false p.2.2.1), (16, .box 28 [.int .i64 p.2.2.2.1, .whole 1, .bool p.2.2.2.2])]⟩
noncomputable def impl_OptionsOk.D0 (k : Nat) (j : Nat) (p : (Int × Int × (List (ByteArray)) × Int × Bool)) : Option (Bool) := loopK (norm [1] (impl_OptionsOk.h 0)) (runK impl_OptionsOk.x k 0 [1] impl_OptionsOk.h 0 (sub impl_OptionsOk.c [1, 0, 1, 0, 0])) j (impl_OptionsOk.S0 p) (kBlk 0 (kSeq (runK impl_OptionsOk.x k 0 [1] impl_OptionsOk.h 0 (sub impl_OptionsOk.c [1, 1])) (fin tt impl_OptionsOk.ps impl_OptionsOk.rs impl_OptionsOk.vs .bool)))
theorem impl_OptionsOk.D0_eq (k : Nat) : ∀ j, impl_OptionsOk.D0 k j = impl_OptionsOk.l0 k j := by
  intro j
  induction j with
  | zero => rfl
  | succ j ih =>
    show _ = impl_OptionsOk.s0 k (impl_OptionsOk.l0 k j)
    rw [← ih]
    funext p
    kernel_rfl
def impl_OptionsOk.f (k : Nat) (a0_0 : Int) (a0_1 : List (ByteArray)) (a0_2 : Bool) : Option (Bool) :=
  impl_OptionsOk.l0 k k ((a0_1.length : Int), (0 : Int), a0_1, a0_0, a0_2)
def impl_OptionsOk.K : Ctr := ⟨impl_OptionsOk.ps, impl_OptionsOk.rs, false, (.two (.int .i64) (.two (.sl 9 .str) .bool)), .bool, fun k x => impl_OptionsOk.f k x.1 x.2.1 x.2.2⟩
theorem impl_OptionsOk.eq (k : Nat) (x : (impl_OptionsOk.K.I).den) : func impl_OptionsOk.x impl_OptionsOk.h impl_OptionsOk.ps impl_OptionsOk.rs impl_OptionsOk.vs impl_OptionsOk.K.I impl_OptionsOk.K.O impl_OptionsOk.c k x = impl_OptionsOk.K.run k x := by
  show _ = impl_OptionsOk.f k x.1 x.2.1 x.2.2
  unfold impl_OptionsOk.f
  rw [← impl_OptionsOk.D0_eq k k]
  kernel_rfl
theorem impl_OptionsOk.ok : CtrOk Tryd.prog 21 impl_OptionsOk.K :=
  CtrOk.of (fn := Tryd.f21) (cd := impl_OptionsOk.c) (cx := impl_OptionsOk.x) (hs := impl_OptionsOk.h) (by kernel_rfl) (by kernel_rfl) (by kernel_rfl) (by kernel_rfl) tt_ok (envOk_cons impl_wayOk.ok (envOk_cons slices_Contains_string_string.ok (envOk_cons impl_within.ok (envOk_nil)))) (by kernel_rfl) (by kernel_rfl) (by kernel_rfl) (by kernel_rfl) fun k x r h => (impl_OptionsOk.eq k x).trans h
/-! strconv.Itoa -/
def strconv_Itoa.f (_k : Nat) (a0 : Int) : Option (ByteArray) := itoaRun a0
def strconv_Itoa.K : Ctr := itoaCtr
theorem strconv_Itoa.ok : CtrOk Tryd.prog 51 strconv_Itoa.K := lib51
/-! impl.Decimal -/
noncomputable def impl_Decimal.c : Code := bodyOf Tryd.f26
def impl_Decimal.h : Nat → Hint := look ⟨[], [], []⟩ []
def impl_Decimal.ps : List PK := [.one]
def impl_Decimal.rs : List RK := [.one true]
def impl_Decimal.vs : List ResultVar := [.tmp 2]
def impl_Decimal.x : Cx := ⟨tt, look none [(51, some strconv_Itoa.K)]⟩
def impl_Decimal.f (k : Nat) (a0 : Int) : Option (ByteArray) :=
  (strconv_Itoa.f k a0).bind fun r1 => some r1
def impl_Decimal.K : Ctr := ⟨impl_Decimal.ps, impl_Decimal.rs, false, (.int .i64), .str, fun k x => impl_Decimal.f k x⟩
theorem impl_Decimal.eq (k : Nat) (x : (impl_Decimal.K.I).den) : func impl_Decimal.x impl_Decimal.h impl_Decimal.ps impl_Decimal.rs impl_Decimal.vs impl_Decimal.K.I impl_Decimal.K.O impl_Decimal.c k x = impl_Decimal.K.run k x := by
  show _ = impl_Decimal.f k x
  kernel_rfl
theorem impl_Decimal.ok : CtrOk Tryd.prog 26 impl_Decimal.K :=
  CtrOk.of (fn := Tryd.f26) (cd := impl_Decimal.c) (cx := impl_Decimal.x) (hs := impl_Decimal.h) (by kernel_rfl) (by kernel_rfl) (by kernel_rfl) (by kernel_rfl) tt_ok (envOk_cons strconv_Itoa.ok (envOk_nil)) (by kernel_rfl) (by kernel_rfl) (by kernel_rfl) (by kernel_rfl) fun k x r h => (impl_Decimal.eq k x).trans h
/-! strings.Join -/
def strings_Join.f (_k : Nat) (a0 : List (ByteArray)) (a1 : ByteArray) : Option (ByteArray) := joinRun a0 a1
def strings_Join.K : Ctr := joinCtr 9
theorem strings_Join.ok : CtrOk Tryd.prog 27 strings_Join.K := lib27
end Go.Proofs.YtfaeklomiofpdaaDoor.DI
