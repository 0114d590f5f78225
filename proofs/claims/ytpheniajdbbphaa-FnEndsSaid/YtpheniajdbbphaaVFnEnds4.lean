/- FnEnds: functions as plain Lean, in the machine of values. -/
import Derived.Test.YtpheniajdbbphaaVFnEnds3
namespace Go.Proofs.Ytpheniajdbbphaa.DI
open Go
set_option linter.unusedVariables false
/-! spec.PacketOk -/
noncomputable def spec_PacketOk.c : Code := bodyOf Try.f39
def spec_PacketOk.h : Nat → Hint := look ⟨[], [], []⟩ [(0, ⟨[1, 3], [16], []⟩)]
def spec_PacketOk.ps : List PK := [.agg 7]
def spec_PacketOk.rs : List RK := [.one true]
def spec_PacketOk.vs : List ResultVar := [.tmp 2]
def spec_PacketOk.x : Cx := ⟨tt, look none [(52, some spec_l01In.K)]⟩
def spec_PacketOk.s0 (k : Nat) (rec0 : (Int × (List (Int)) × Int × Int × Int × Int × Int × ByteArray) → Option (Bool)) (p : (Int × (List (Int)) × Int × Int × Int × Int × Int × ByteArray)) : Option (Bool) :=
  (bif (decide (p.1 < (p.2.1.length : Int))) then (bif ((decide ((0 : Int) ≤ p.1)) && (decide (p.1 < (p.2.1.length : Int)))) then (p.2.1[p.1.toNat]?).bind fun x6 => (spec_l01In.f k x6 (1 : Int) (1000000000 : Int)).bind fun r7 => (bif (!r7) then some false else (bif (p.2.2.1 == (3 : Int)) then some false else rec0 ((IntKind.i64.wrap (p.1 + (1 : Int))), p.2.1, p.2.2.1, p.2.2.2.1, p.2.2.2.2.1, p.2.2.2.2.2.1, p.2.2.2.2.2.2.1, p.2.2.2.2.2.2.2))) else none) else (bif (p.2.2.1 != (2 : Int)) then some true else (bif (p.2.2.2.2.2.2.2.toList == ByteArray.empty.toList) then some (p.2.2.2.2.2.2.1 == (0 : Int)) else some false)))
def spec_PacketOk.l0 (k : Nat) : Nat → (Int × (List (Int)) × Int × Int × Int × Int × Int × ByteArray) → Option (Bool)
  | 0 => fun _ => none
  | j + 1 => spec_PacketOk.s0 k (spec_PacketOk.l0 k j)
def spec_PacketOk.S0 (p : (Int × (List (Int)) × Int × Int × Int × Int × Int × ByteArray)) : DS := ⟨tl [(1, .at (.bptr 16 0)), (3, .at (.int .i64 p.1))], lookO [(5, .row 3 (.int .i64) false p.2.1), (16, .box 28 [.int .i64 p.2.2.1, .int .i64 p.2.2.2.1, .int .i64 p.2.2.2.2.1, .int .i64 p.2.2.2.2.2.1, .int .i64 p.2.2.2.2.2.2.1, .whole 5, .str p.2.2.2.2.2.2.2])]⟩
noncomputable def spec_PacketOk.D0 (k : Nat) (j : Nat) (p : (Int × (List (Int)) × Int × Int × Int × Int × Int × ByteArray)) : Option (Bool) := loopK (norm [5] (spec_PacketOk.h 0)) (runK spec_PacketOk.x k 0 [5] spec_PacketOk.h 0 (sub spec_PacketOk.c [1, 1, 0, 1, 0, 0])) j (spec_PacketOk.S0 p) (kBlk 0 (kSeq (runK spec_PacketOk.x k 0 [5] spec_PacketOk.h 0 (sub spec_PacketOk.c [1, 1, 1])) (fin tt spec_PacketOk.ps spec_PacketOk.rs spec_PacketOk.vs .bool)))
theorem spec_PacketOk.D0_eq (k : Nat) : ∀ j, spec_PacketOk.D0 k j = spec_PacketOk.l0 k j := by
  intro j
  induction j with
  | zero => rfl
  | succ j ih =>
    show _ = spec_PacketOk.s0 k (spec_PacketOk.l0 k j)
    rw [← ih]
    funext p
    kernel_rfl
def spec_PacketOk.f (k : Nat) (a0_0 : Int) (a0_1 : Int) (a0_2 : Int) (a0_3 : Int) (a0_4 : Int) (a0_5 : List (Int)) (a0_6 : ByteArray) : Option (Bool) :=
  (spec_l01In.f k a0_0 (1 : Int) (3 : Int)).bind fun r1 => (bif (!r1) then some false else (spec_l01In.f k a0_1 (0 : Int) (7 : Int)).bind fun r2 => (bif (!r2) then some false else (spec_l01In.f k a0_2 (1 : Int) (99 : Int)).bind fun r3 => (bif (!r3) then some false else (spec_l01In.f k a0_3 (1 : Int) (99 : Int)).bind fun r4 => (bif (!r4) then some false else (spec_l01In.f k a0_4 (0 : Int) (1000000000 : Int)).bind fun r5 => (bif (!r5) then some false else (bif (decide ((a0_5.length : Int) > (4 : Int))) then some false else (bif (decide ((a0_6.size : Int) > (120 : Int))) then some false else spec_PacketOk.l0 k k ((0 : Int), a0_5, a0_0, a0_1, a0_2, a0_3, a0_4, a0_6))))))))
def spec_PacketOk.K : Ctr := ⟨spec_PacketOk.ps, spec_PacketOk.rs, false, (.two (.int .i64) (.two (.int .i64) (.two (.int .i64) (.two (.int .i64) (.two (.int .i64) (.two (.sl 3 (.int .i64)) .str)))))), .bool, fun k x => spec_PacketOk.f k x.1 x.2.1 x.2.2.1 x.2.2.2.1 x.2.2.2.2.1 x.2.2.2.2.2.1 x.2.2.2.2.2.2⟩
theorem spec_PacketOk.eq (k : Nat) (x : (spec_PacketOk.K.I).den) : func spec_PacketOk.x spec_PacketOk.h spec_PacketOk.ps spec_PacketOk.rs spec_PacketOk.vs spec_PacketOk.K.I spec_PacketOk.K.O spec_PacketOk.c k x = spec_PacketOk.K.run k x := by
  show _ = spec_PacketOk.f k x.1 x.2.1 x.2.2.1 x.2.2.2.1 x.2.2.2.2.1 x.2.2.2.2.2.1 x.2.2.2.2.2.2
  unfold spec_PacketOk.f
  rw [← spec_PacketOk.D0_eq k k]
  kernel_rfl
theorem spec_PacketOk.ok : CtrOk Try.prog 39 spec_PacketOk.K :=
  CtrOk.of (fn := Try.f39) (cd := spec_PacketOk.c) (cx := spec_PacketOk.x) (hs := spec_PacketOk.h) (by kernel_rfl) (by kernel_rfl) (by kernel_rfl) (by kernel_rfl) tt_ok (envOk_cons spec_l01In.ok (envOk_nil)) (by kernel_rfl) (by kernel_rfl) (by kernel_rfl) (by kernel_rfl) fun k x r h => (spec_PacketOk.eq k x).trans h
/-! spec.l13In -/
noncomputable def spec_l13In.c : Code := bodyOf Try.f81
def spec_l13In.h : Nat → Hint := look ⟨[], [], []⟩ [(0, ⟨[0, 1, 5], [], []⟩)]
def spec_l13In.ps : List PK := [.one, .one]
def spec_l13In.rs : List RK := [.one true]
def spec_l13In.vs : List ResultVar := [.tmp 4]
def spec_l13In.x : Cx := ⟨tt, look none []⟩
def spec_l13In.s0 (_k : Nat) (rec0 : (Int × Int × (List (Int))) → Option (Bool)) (p : (Int × Int × (List (Int)))) : Option (Bool) :=
  (bif (decide (p.2.1 < (p.2.2.length : Int))) then (bif ((decide ((0 : Int) ≤ p.2.1)) && (decide (p.2.1 < (p.2.2.length : Int)))) then (p.2.2[p.2.1.toNat]?).bind fun x1 => (bif (x1 == p.1) then some true else rec0 (p.1, (IntKind.i64.wrap (p.2.1 + (1 : Int))), p.2.2)) else none) else some false)
def spec_l13In.l0 (k : Nat) : Nat → (Int × Int × (List (Int))) → Option (Bool)
  | 0 => fun _ => none
  | j + 1 => spec_l13In.s0 k (spec_l13In.l0 k j)
def spec_l13In.S0 (p : (Int × Int × (List (Int)))) : DS := ⟨tl [(0, .at (.whole 0)), (1, .at (.int .i64 p.1)), (5, .at (.int .i64 p.2.1))], lookO [(0, .row 3 (.int .i64) false p.2.2)]⟩
noncomputable def spec_l13In.D0 (k : Nat) (j : Nat) (p : (Int × Int × (List (Int)))) : Option (Bool) := loopK (norm [0] (spec_l13In.h 0)) (runK spec_l13In.x k 0 [0] spec_l13In.h 0 (sub spec_l13In.c [1, 0, 1, 0, 0])) j (spec_l13In.S0 p) (kBlk 0 (kSeq (runK spec_l13In.x k 0 [0] spec_l13In.h 0 (sub spec_l13In.c [1, 1])) (fin tt spec_l13In.ps spec_l13In.rs spec_l13In.vs .bool)))
theorem spec_l13In.D0_eq (k : Nat) : ∀ j, spec_l13In.D0 k j = spec_l13In.l0 k j := by
  intro j
  induction j with
  | zero => rfl
  | succ j ih =>
    show _ = spec_l13In.s0 k (spec_l13In.l0 k j)
    rw [← ih]
    funext p
    kernel_rfl
def spec_l13In.f (k : Nat) (a0 : List (Int)) (a1 : Int) : Option (Bool) :=
  spec_l13In.l0 k k (a1, (0 : Int), a0)
def spec_l13In.K : Ctr := ⟨spec_l13In.ps, spec_l13In.rs, false, (.two (.sl 3 (.int .i64)) (.int .i64)), .bool, fun k x => spec_l13In.f k x.1 x.2⟩
theorem spec_l13In.eq (k : Nat) (x : (spec_l13In.K.I).den) : func spec_l13In.x spec_l13In.h spec_l13In.ps spec_l13In.rs spec_l13In.vs spec_l13In.K.I spec_l13In.K.O spec_l13In.c k x = spec_l13In.K.run k x := by
  show _ = spec_l13In.f k x.1 x.2
  unfold spec_l13In.f
  rw [← spec_l13In.D0_eq k k]
  kernel_rfl
theorem spec_l13In.ok : CtrOk Try.prog 81 spec_l13In.K :=
  CtrOk.of (fn := Try.f81) (cd := spec_l13In.c) (cx := spec_l13In.x) (hs := spec_l13In.h) (by kernel_rfl) (by kernel_rfl) (by kernel_rfl) (by kernel_rfl) tt_ok (envOk_nil) (by kernel_rfl) (by kernel_rfl) (by kernel_rfl) (by kernel_rfl) fun k x r h => (spec_l13In.eq k x).trans h
/-! spec.l13Put -/
noncomputable def spec_l13Put.c : Code := bodyOf Try.f82
def spec_l13Put.h : Nat → Hint := look ⟨[], [], []⟩ [(0, ⟨[0, 1, 2, 6, 7], [], [(.b 0 3, 2048, 9, .str), (.b 0 4, 2049, 92, (.two (.int .i64) (.two .str (.two (.int .i64) (.int .i64))))), (.b 0 6, 2050, 87, (.two (.int .i64) .str)), (.b 0 7, 2051, 3, (.int .i64)), (.b 0 8, 2052, 9, .str), (.t 6, 2053, 87, (.two (.int .i64) .str))]⟩), (2, ⟨[0, 1, 6, 8], [], [(.b 0 3, 2048, 9, .str), (.b 0 4, 2049, 92, (.two (.int .i64) (.two .str (.two (.int .i64) (.int .i64))))), (.b 0 6, 2050, 87, (.two (.int .i64) .str)), (.b 0 7, 2051, 3, (.int .i64)), (.b 0 8, 2052, 9, .str), (.t 6, 2053, 87, (.two (.int .i64) .str))]⟩), (4, ⟨[0, 6], [], [(.b 0 3, 2048, 9, .str), (.b 0 4, 2049, 92, (.two (.int .i64) (.two .str (.two (.int .i64) (.int .i64))))), (.b 0 6, 2050, 87, (.two (.int .i64) .str)), (.b 0 7, 2051, 3, (.int .i64)), (.b 0 8, 2052, 9, .str), (.t 6, 2053, 87, (.two (.int .i64) .str))]⟩)]
def spec_l13Put.ps : List PK := [.boxg 36 9, .one, .one]
def spec_l13Put.rs : List RK := []
def spec_l13Put.vs : List ResultVar := []
def spec_l13Put.x : Cx := ⟨tt, look none []⟩
def spec_l13Put.s4 (_k : Nat) (rec4 : (Int × Int × Int × Int × (List (ByteArray)) × (List (Int × ByteArray × Int × Int)) × (List (Int × ByteArray)) × (List (Int)) × (List (ByteArray)) × (List (Int × ByteArray))) → Option (Int × Int × Int × (List (ByteArray)) × (List (Int × ByteArray × Int × Int)) × Int × (List (Int × ByteArray)) × (List (Int)) × (List (ByteArray)))) (p : (Int × Int × Int × Int × (List (ByteArray)) × (List (Int × ByteArray × Int × Int)) × (List (Int × ByteArray)) × (List (Int)) × (List (ByteArray)) × (List (Int × ByteArray)))) : Option (Int × Int × Int × (List (ByteArray)) × (List (Int × ByteArray × Int × Int)) × Int × (List (Int × ByteArray)) × (List (Int)) × (List (ByteArray))) :=
  (bif (decide ((p.2.2.2.2.2.2.2.2.2.length : Int) > (0 : Int))) then (bif (true && (decide ((0 : Int) < (p.2.2.2.2.2.2.2.2.2.length : Int)))) then (p.2.2.2.2.2.2.2.2.2[0]?).bind fun x6 => (bif (x6.1 == (IntKind.i64.wrap (p.2.2.2.1 + (1 : Int)))) then (bif (true && (decide ((0 : Int) < (p.2.2.2.2.2.2.2.2.2.length : Int)))) then (p.2.2.2.2.2.2.2.2.2[0]?).bind fun x7 => (bif decide ((p.2.2.2.2.2.2.2.2.1.length + [x7.2].length) * 16 ≤ 140737488355328) then (bif (true && (decide ((1 : Int) ≤ (p.2.2.2.2.2.2.2.2.2.length : Int)))) then rec4 (p.1, p.2.1, p.2.2.1, (IntKind.i64.wrap (p.2.2.2.1 + (1 : Int))), p.2.2.2.2.1, p.2.2.2.2.2.1, p.2.2.2.2.2.2.1, p.2.2.2.2.2.2.2.1, (p.2.2.2.2.2.2.2.2.1 ++ [x7.2]), ((p.2.2.2.2.2.2.2.2.2.drop 1).take (p.2.2.2.2.2.2.2.2.2.length - 1))) else none) else none) else none) else (bif decide ((([] : List (Int × ByteArray)).length + p.2.2.2.2.2.2.2.2.2.length) * 24 ≤ 140737488355328) then some (p.1, p.2.1, p.2.2.1, p.2.2.2.2.1, p.2.2.2.2.2.1, p.2.2.2.1, (([] : List (Int × ByteArray)) ++ p.2.2.2.2.2.2.2.2.2), p.2.2.2.2.2.2.2.1, p.2.2.2.2.2.2.2.2.1) else none)) else none) else (bif decide ((([] : List (Int × ByteArray)).length + p.2.2.2.2.2.2.2.2.2.length) * 24 ≤ 140737488355328) then some (p.1, p.2.1, p.2.2.1, p.2.2.2.2.1, p.2.2.2.2.2.1, p.2.2.2.1, (([] : List (Int × ByteArray)) ++ p.2.2.2.2.2.2.2.2.2), p.2.2.2.2.2.2.2.1, p.2.2.2.2.2.2.2.2.1) else none))
def spec_l13Put.l4 (k : Nat) : Nat → (Int × Int × Int × Int × (List (ByteArray)) × (List (Int × ByteArray × Int × Int)) × (List (Int × ByteArray)) × (List (Int)) × (List (ByteArray)) × (List (Int × ByteArray))) → Option (Int × Int × Int × (List (ByteArray)) × (List (Int × ByteArray × Int × Int)) × Int × (List (Int × ByteArray)) × (List (Int)) × (List (ByteArray)))
  | 0 => fun _ => none
  | j + 1 => spec_l13Put.s4 k (spec_l13Put.l4 k j)
def spec_l13Put.s2 (_k : Nat) (rec2 : (Int × Int × Int × Int × Int × Int × (List (ByteArray)) × (List (Int × ByteArray × Int × Int)) × (List (Int × ByteArray)) × (List (Int)) × (List (ByteArray)) × (List (Int × ByteArray))) → Option (Int × Int × Int × (List (ByteArray)) × (List (Int × ByteArray × Int × Int)) × Int × (List (Int × ByteArray)) × (List (Int)) × (List (ByteArray)))) (i4 : (Int × Int × Int × Int × (List (ByteArray)) × (List (Int × ByteArray × Int × Int)) × (List (Int × ByteArray)) × (List (Int)) × (List (ByteArray)) × (List (Int × ByteArray))) → Option (Int × Int × Int × (List (ByteArray)) × (List (Int × ByteArray × Int × Int)) × Int × (List (Int × ByteArray)) × (List (Int)) × (List (ByteArray)))) (p : (Int × Int × Int × Int × Int × Int × (List (ByteArray)) × (List (Int × ByteArray × Int × Int)) × (List (Int × ByteArray)) × (List (Int)) × (List (ByteArray)) × (List (Int × ByteArray)))) : Option (Int × Int × Int × (List (ByteArray)) × (List (Int × ByteArray × Int × Int)) × Int × (List (Int × ByteArray)) × (List (Int)) × (List (ByteArray))) :=
  (bif (decide (p.2.1 < (p.2.2.2.2.2.2.2.2.1.length : Int))) then (bif ((decide ((0 : Int) ≤ p.2.1)) && (decide (p.2.1 < (p.2.2.2.2.2.2.2.2.1.length : Int)))) then (p.2.2.2.2.2.2.2.2.1[p.2.1.toNat]?).bind fun x4 => (bif (decide (x4.1 > p.1)) then (bif ((decide ((0 : Int) ≤ p.2.1)) && (decide (p.2.1 < (p.2.2.2.2.2.2.2.2.1.length : Int)))) then (p.2.2.2.2.2.2.2.2.1[p.2.1.toNat]?).bind fun x5 => (bif decide ((p.2.2.2.2.2.2.2.2.2.2.2.length + [(x5.1, x5.2)].length) * 24 ≤ 140737488355328) then rec2 (p.1, (IntKind.i64.wrap (p.2.1 + (1 : Int))), p.2.2.1, p.2.2.2.1, p.2.2.2.2.1, p.2.2.2.2.2.1, p.2.2.2.2.2.2.1, p.2.2.2.2.2.2.2.1, p.2.2.2.2.2.2.2.2.1, p.2.2.2.2.2.2.2.2.2.1, p.2.2.2.2.2.2.2.2.2.2.1, (p.2.2.2.2.2.2.2.2.2.2.2 ++ [(x5.1, x5.2)])) else none) else none) else rec2 (p.1, (IntKind.i64.wrap (p.2.1 + (1 : Int))), p.2.2.1, p.2.2.2.1, p.2.2.2.2.1, p.2.2.2.2.2.1, p.2.2.2.2.2.2.1, p.2.2.2.2.2.2.2.1, p.2.2.2.2.2.2.2.2.1, p.2.2.2.2.2.2.2.2.2.1, p.2.2.2.2.2.2.2.2.2.2.1, p.2.2.2.2.2.2.2.2.2.2.2)) else none) else i4 (p.2.2.1, p.2.2.2.1, p.2.2.2.2.1, p.2.2.2.2.2.1, p.2.2.2.2.2.2.1, p.2.2.2.2.2.2.2.1, p.2.2.2.2.2.2.2.2.1, p.2.2.2.2.2.2.2.2.2.1, p.2.2.2.2.2.2.2.2.2.2.1, p.2.2.2.2.2.2.2.2.2.2.2))
def spec_l13Put.l2 (k : Nat) : Nat → (Int × Int × Int × Int × Int × Int × (List (ByteArray)) × (List (Int × ByteArray × Int × Int)) × (List (Int × ByteArray)) × (List (Int)) × (List (ByteArray)) × (List (Int × ByteArray))) → Option (Int × Int × Int × (List (ByteArray)) × (List (Int × ByteArray × Int × Int)) × Int × (List (Int × ByteArray)) × (List (Int)) × (List (ByteArray)))
  | 0 => fun _ => none
  | j + 1 => spec_l13Put.s2 k (spec_l13Put.l2 k j) (spec_l13Put.l4 k k)
def spec_l13Put.s0 (_k : Nat) (rec0 : (Int × ByteArray × Int × Int × Int × Int × Int × (List (ByteArray)) × (List (Int × ByteArray × Int × Int)) × (List (Int × ByteArray)) × (List (Int)) × (List (ByteArray)) × (List (Int × ByteArray))) → Option (Int × Int × Int × (List (ByteArray)) × (List (Int × ByteArray × Int × Int)) × Int × (List (Int × ByteArray)) × (List (Int)) × (List (ByteArray)))) (i2 : (Int × Int × Int × Int × Int × Int × (List (ByteArray)) × (List (Int × ByteArray × Int × Int)) × (List (Int × ByteArray)) × (List (Int)) × (List (ByteArray)) × (List (Int × ByteArray))) → Option (Int × Int × Int × (List (ByteArray)) × (List (Int × ByteArray × Int × Int)) × Int × (List (Int × ByteArray)) × (List (Int)) × (List (ByteArray)))) (p : (Int × ByteArray × Int × Int × Int × Int × Int × (List (ByteArray)) × (List (Int × ByteArray × Int × Int)) × (List (Int × ByteArray)) × (List (Int)) × (List (ByteArray)) × (List (Int × ByteArray)))) : Option (Int × Int × Int × (List (ByteArray)) × (List (Int × ByteArray × Int × Int)) × Int × (List (Int × ByteArray)) × (List (Int)) × (List (ByteArray))) :=
  (bif (decide (p.2.2.1 < (p.2.2.2.2.2.2.2.2.2.1.length : Int))) then (bif ((decide ((0 : Int) ≤ p.2.2.1)) && (decide (p.2.2.1 < (p.2.2.2.2.2.2.2.2.2.1.length : Int)))) then (p.2.2.2.2.2.2.2.2.2.1[p.2.2.1.toNat]?).bind fun x1 => (bif (x1.1 == p.1) then some (p.2.2.2.1, p.2.2.2.2.1, p.2.2.2.2.2.1, p.2.2.2.2.2.2.2.1, p.2.2.2.2.2.2.2.2.1, p.2.2.2.2.2.2.1, p.2.2.2.2.2.2.2.2.2.1, p.2.2.2.2.2.2.2.2.2.2.1, p.2.2.2.2.2.2.2.2.2.2.2.1) else (bif ((decide ((0 : Int) ≤ p.2.2.1)) && (decide (p.2.2.1 < (p.2.2.2.2.2.2.2.2.2.1.length : Int)))) then (p.2.2.2.2.2.2.2.2.2.1[p.2.2.1.toNat]?).bind fun x2 => (bif (decide (x2.1 < p.1)) then (bif ((decide ((0 : Int) ≤ p.2.2.1)) && (decide (p.2.2.1 < (p.2.2.2.2.2.2.2.2.2.1.length : Int)))) then (p.2.2.2.2.2.2.2.2.2.1[p.2.2.1.toNat]?).bind fun x3 => (bif decide ((p.2.2.2.2.2.2.2.2.2.2.2.2.length + [(x3.1, x3.2)].length) * 24 ≤ 140737488355328) then rec0 (p.1, p.2.1, (IntKind.i64.wrap (p.2.2.1 + (1 : Int))), p.2.2.2.1, p.2.2.2.2.1, p.2.2.2.2.2.1, p.2.2.2.2.2.2.1, p.2.2.2.2.2.2.2.1, p.2.2.2.2.2.2.2.2.1, p.2.2.2.2.2.2.2.2.2.1, p.2.2.2.2.2.2.2.2.2.2.1, p.2.2.2.2.2.2.2.2.2.2.2.1, (p.2.2.2.2.2.2.2.2.2.2.2.2 ++ [(x3.1, x3.2)])) else none) else none) else rec0 (p.1, p.2.1, (IntKind.i64.wrap (p.2.2.1 + (1 : Int))), p.2.2.2.1, p.2.2.2.2.1, p.2.2.2.2.2.1, p.2.2.2.2.2.2.1, p.2.2.2.2.2.2.2.1, p.2.2.2.2.2.2.2.2.1, p.2.2.2.2.2.2.2.2.2.1, p.2.2.2.2.2.2.2.2.2.2.1, p.2.2.2.2.2.2.2.2.2.2.2.1, p.2.2.2.2.2.2.2.2.2.2.2.2)) else none)) else none) else (bif decide ((p.2.2.2.2.2.2.2.2.2.2.2.2.length + [(p.1, p.2.1)].length) * 24 ≤ 140737488355328) then i2 (p.1, (0 : Int), p.2.2.2.1, p.2.2.2.2.1, p.2.2.2.2.2.1, p.2.2.2.2.2.2.1, p.2.2.2.2.2.2.2.1, p.2.2.2.2.2.2.2.2.1, p.2.2.2.2.2.2.2.2.2.1, p.2.2.2.2.2.2.2.2.2.2.1, p.2.2.2.2.2.2.2.2.2.2.2.1, (p.2.2.2.2.2.2.2.2.2.2.2.2 ++ [(p.1, p.2.1)])) else none))
def spec_l13Put.l0 (k : Nat) : Nat → (Int × ByteArray × Int × Int × Int × Int × Int × (List (ByteArray)) × (List (Int × ByteArray × Int × Int)) × (List (Int × ByteArray)) × (List (Int)) × (List (ByteArray)) × (List (Int × ByteArray))) → Option (Int × Int × Int × (List (ByteArray)) × (List (Int × ByteArray × Int × Int)) × Int × (List (Int × ByteArray)) × (List (Int)) × (List (ByteArray)))
  | 0 => fun _ => none
  | j + 1 => spec_l13Put.s0 k (spec_l13Put.l0 k j) (spec_l13Put.l2 k k)
def spec_l13Put.S4 (p : (Int × Int × Int × Int × (List (ByteArray)) × (List (Int × ByteArray × Int × Int)) × (List (Int × ByteArray)) × (List (Int)) × (List (ByteArray)) × (List (Int × ByteArray)))) : DS := ⟨tl [(0, .at (.bptr 0 0)), (6, .at (.whole 2053))], lookO [(0, .box 36 [.int .i64 p.1, .int .i64 p.2.1, .int .i64 p.2.2.1, .whole 2048, .whole 2049, .int .i64 p.2.2.2.1, .whole 2050, .whole 2051, .whole 2052]), (2048, .row 9 .str true p.2.2.2.2.1), (2049, .row 92 (.two (.int .i64) (.two .str (.two (.int .i64) (.int .i64)))) true p.2.2.2.2.2.1), (2050, .row 87 (.two (.int .i64) .str) true p.2.2.2.2.2.2.1), (2051, .row 3 (.int .i64) true p.2.2.2.2.2.2.2.1), (2052, .row 9 .str true p.2.2.2.2.2.2.2.2.1), (2053, .row 87 (.two (.int .i64) .str) true p.2.2.2.2.2.2.2.2.2)]⟩
def spec_l13Put.S2 (p : (Int × Int × Int × Int × Int × Int × (List (ByteArray)) × (List (Int × ByteArray × Int × Int)) × (List (Int × ByteArray)) × (List (Int)) × (List (ByteArray)) × (List (Int × ByteArray)))) : DS := ⟨tl [(0, .at (.bptr 0 0)), (1, .at (.int .i64 p.1)), (6, .at (.whole 2053)), (8, .at (.int .i64 p.2.1))], lookO [(0, .box 36 [.int .i64 p.2.2.1, .int .i64 p.2.2.2.1, .int .i64 p.2.2.2.2.1, .whole 2048, .whole 2049, .int .i64 p.2.2.2.2.2.1, .whole 2050, .whole 2051, .whole 2052]), (2048, .row 9 .str true p.2.2.2.2.2.2.1), (2049, .row 92 (.two (.int .i64) (.two .str (.two (.int .i64) (.int .i64)))) true p.2.2.2.2.2.2.2.1), (2050, .row 87 (.two (.int .i64) .str) true p.2.2.2.2.2.2.2.2.1), (2051, .row 3 (.int .i64) true p.2.2.2.2.2.2.2.2.2.1), (2052, .row 9 .str true p.2.2.2.2.2.2.2.2.2.2.1), (2053, .row 87 (.two (.int .i64) .str) true p.2.2.2.2.2.2.2.2.2.2.2)]⟩
def spec_l13Put.S0 (p : (Int × ByteArray × Int × Int × Int × Int × Int × (List (ByteArray)) × (List (Int × ByteArray × Int × Int)) × (List (Int × ByteArray)) × (List (Int)) × (List (ByteArray)) × (List (Int × ByteArray)))) : DS := ⟨tl [(0, .at (.bptr 0 0)), (1, .at (.int .i64 p.1)), (2, .at (.str p.2.1)), (6, .at (.whole 2053)), (7, .at (.int .i64 p.2.2.1))], lookO [(0, .box 36 [.int .i64 p.2.2.2.1, .int .i64 p.2.2.2.2.1, .int .i64 p.2.2.2.2.2.1, .whole 2048, .whole 2049, .int .i64 p.2.2.2.2.2.2.1, .whole 2050, .whole 2051, .whole 2052]), (2048, .row 9 .str true p.2.2.2.2.2.2.2.1), (2049, .row 92 (.two (.int .i64) (.two .str (.two (.int .i64) (.int .i64)))) true p.2.2.2.2.2.2.2.2.1), (2050, .row 87 (.two (.int .i64) .str) true p.2.2.2.2.2.2.2.2.2.1), (2051, .row 3 (.int .i64) true p.2.2.2.2.2.2.2.2.2.2.1), (2052, .row 9 .str true p.2.2.2.2.2.2.2.2.2.2.2.1), (2053, .row 87 (.two (.int .i64) .str) true p.2.2.2.2.2.2.2.2.2.2.2.2)]⟩
noncomputable def spec_l13Put.D4 (k : Nat) (j : Nat) (p : (Int × Int × Int × Int × (List (ByteArray)) × (List (Int × ByteArray × Int × Int)) × (List (Int × ByteArray)) × (List (Int)) × (List (ByteArray)) × (List (Int × ByteArray)))) : Option (Int × Int × Int × (List (ByteArray)) × (List (Int × ByteArray × Int × Int)) × Int × (List (Int × ByteArray)) × (List (Int)) × (List (ByteArray))) := loopK (norm [0] (spec_l13Put.h 4)) (runK spec_l13Put.x k 0 [0] spec_l13Put.h 4 (sub spec_l13Put.c [1, 1, 1, 1, 0, 0, 0])) j (spec_l13Put.S4 p) (kBlk 4 (kSeq (runK spec_l13Put.x k 0 [0] spec_l13Put.h 0 (sub spec_l13Put.c [1, 1, 1, 1, 1])) (fin tt spec_l13Put.ps spec_l13Put.rs spec_l13Put.vs (.two (.int .i64) (.two (.int .i64) (.two (.int .i64) (.two (.sl 9 .str) (.two (.sl 92 (.two (.int .i64) (.two .str (.two (.int .i64) (.int .i64))))) (.two (.int .i64) (.two (.sl 87 (.two (.int .i64) .str)) (.two (.sl 3 (.int .i64)) (.sl 9 .str))))))))))))
noncomputable def spec_l13Put.D2 (k : Nat) (j : Nat) (p : (Int × Int × Int × Int × Int × Int × (List (ByteArray)) × (List (Int × ByteArray × Int × Int)) × (List (Int × ByteArray)) × (List (Int)) × (List (ByteArray)) × (List (Int × ByteArray)))) : Option (Int × Int × Int × (List (ByteArray)) × (List (Int × ByteArray × Int × Int)) × Int × (List (Int × ByteArray)) × (List (Int)) × (List (ByteArray))) := loopK (norm [0] (spec_l13Put.h 2)) (runK spec_l13Put.x k 0 [0] spec_l13Put.h 2 (sub spec_l13Put.c [1, 1, 1, 0, 1, 0, 0])) j (spec_l13Put.S2 p) (kBlk 2 (kSeq (runK spec_l13Put.x k 0 [0] spec_l13Put.h 0 (sub spec_l13Put.c [1, 1, 1, 1])) (fin tt spec_l13Put.ps spec_l13Put.rs spec_l13Put.vs (.two (.int .i64) (.two (.int .i64) (.two (.int .i64) (.two (.sl 9 .str) (.two (.sl 92 (.two (.int .i64) (.two .str (.two (.int .i64) (.int .i64))))) (.two (.int .i64) (.two (.sl 87 (.two (.int .i64) .str)) (.two (.sl 3 (.int .i64)) (.sl 9 .str))))))))))))
noncomputable def spec_l13Put.D0 (k : Nat) (j : Nat) (p : (Int × ByteArray × Int × Int × Int × Int × Int × (List (ByteArray)) × (List (Int × ByteArray × Int × Int)) × (List (Int × ByteArray)) × (List (Int)) × (List (ByteArray)) × (List (Int × ByteArray)))) : Option (Int × Int × Int × (List (ByteArray)) × (List (Int × ByteArray × Int × Int)) × Int × (List (Int × ByteArray)) × (List (Int)) × (List (ByteArray))) := loopK (norm [0] (spec_l13Put.h 0)) (runK spec_l13Put.x k 0 [0] spec_l13Put.h 0 (sub spec_l13Put.c [1, 0, 1, 0, 0])) j (spec_l13Put.S0 p) (kBlk 0 (kSeq (runK spec_l13Put.x k 0 [0] spec_l13Put.h 0 (sub spec_l13Put.c [1, 1])) (fin tt spec_l13Put.ps spec_l13Put.rs spec_l13Put.vs (.two (.int .i64) (.two (.int .i64) (.two (.int .i64) (.two (.sl 9 .str) (.two (.sl 92 (.two (.int .i64) (.two .str (.two (.int .i64) (.int .i64))))) (.two (.int .i64) (.two (.sl 87 (.two (.int .i64) .str)) (.two (.sl 3 (.int .i64)) (.sl 9 .str))))))))))))
theorem spec_l13Put.D4_eq (k : Nat) : ∀ j, spec_l13Put.D4 k j = spec_l13Put.l4 k j := by
  intro j
  induction j with
  | zero => rfl
  | succ j ih =>
    show _ = spec_l13Put.s4 k (spec_l13Put.l4 k j)
    rw [← ih]
    funext p
    kernel_rfl
theorem spec_l13Put.D2_eq (k : Nat) : ∀ j, spec_l13Put.D2 k j = spec_l13Put.l2 k j := by
  intro j
  induction j with
  | zero => rfl
  | succ j ih =>
    show _ = spec_l13Put.s2 k (spec_l13Put.l2 k j) (spec_l13Put.l4 k k)
    rw [← ih, ← spec_l13Put.D4_eq k k]
    funext p
    kernel_rfl
theorem spec_l13Put.D0_eq (k : Nat) : ∀ j, spec_l13Put.D0 k j = spec_l13Put.l0 k j := by
  intro j
  induction j with
  | zero => rfl
  | succ j ih =>
    show _ = spec_l13Put.s0 k (spec_l13Put.l0 k j) (spec_l13Put.l2 k k)
    rw [← ih, ← spec_l13Put.D2_eq k k]
    funext p
    kernel_rfl
def spec_l13Put.f (k : Nat) (a0_0 : Int) (a0_1 : Int) (a0_2 : Int) (a0_3 : List (ByteArray)) (a0_4 : List (Int × ByteArray × Int × Int)) (a0_5 : Int) (a0_6 : List (Int × ByteArray)) (a0_7 : List (Int)) (a0_8 : List (ByteArray)) (a1 : Int) (a2 : ByteArray) : Option (Int × Int × Int × (List (ByteArray)) × (List (Int × ByteArray × Int × Int)) × Int × (List (Int × ByteArray)) × (List (Int)) × (List (ByteArray))) :=
  spec_l13Put.l0 k k (a1, a2, (0 : Int), a0_0, a0_1, a0_2, a0_5, a0_3, a0_4, a0_6, a0_7, a0_8, ([] : List (Int × ByteArray)))
def spec_l13Put.K : Ctr := ⟨spec_l13Put.ps, spec_l13Put.rs, false, (.two (.int .i64) (.two (.int .i64) (.two (.int .i64) (.two (.sl 9 .str) (.two (.sl 92 (.two (.int .i64) (.two .str (.two (.int .i64) (.int .i64))))) (.two (.int .i64) (.two (.sl 87 (.two (.int .i64) .str)) (.two (.sl 3 (.int .i64)) (.two (.sl 9 .str) (.two (.int .i64) .str)))))))))), (.two (.int .i64) (.two (.int .i64) (.two (.int .i64) (.two (.sl 9 .str) (.two (.sl 92 (.two (.int .i64) (.two .str (.two (.int .i64) (.int .i64))))) (.two (.int .i64) (.two (.sl 87 (.two (.int .i64) .str)) (.two (.sl 3 (.int .i64)) (.sl 9 .str))))))))), fun k x => spec_l13Put.f k x.1 x.2.1 x.2.2.1 x.2.2.2.1 x.2.2.2.2.1 x.2.2.2.2.2.1 x.2.2.2.2.2.2.1 x.2.2.2.2.2.2.2.1 x.2.2.2.2.2.2.2.2.1 x.2.2.2.2.2.2.2.2.2.1 x.2.2.2.2.2.2.2.2.2.2⟩
theorem spec_l13Put.eq (k : Nat) (x : (spec_l13Put.K.I).den) : func spec_l13Put.x spec_l13Put.h spec_l13Put.ps spec_l13Put.rs spec_l13Put.vs spec_l13Put.K.I spec_l13Put.K.O spec_l13Put.c k x = spec_l13Put.K.run k x := by
  show _ = spec_l13Put.f k x.1 x.2.1 x.2.2.1 x.2.2.2.1 x.2.2.2.2.1 x.2.2.2.2.2.1 x.2.2.2.2.2.2.1 x.2.2.2.2.2.2.2.1 x.2.2.2.2.2.2.2.2.1 x.2.2.2.2.2.2.2.2.2.1 x.2.2.2.2.2.2.2.2.2.2
  unfold spec_l13Put.f
  rw [← spec_l13Put.D0_eq k k]
  kernel_rfl
theorem spec_l13Put.ok : CtrOk Try.prog 82 spec_l13Put.K :=
  CtrOk.of (fn := Try.f82) (cd := spec_l13Put.c) (cx := spec_l13Put.x) (hs := spec_l13Put.h) (by kernel_rfl) (by kernel_rfl) (by kernel_rfl) (by kernel_rfl) tt_ok (envOk_nil) (by kernel_rfl) (by kernel_rfl) (by kernel_rfl) (by kernel_rfl) fun k x r h => (spec_l13Put.eq k x).trans h
end Go.Proofs.Ytpheniajdbbphaa.DI
