/- FnGreets: functions as plain Lean, in the machine of values. -/
import Derived.Test.YtpinehfjimphmaaGreatVFnGreets4
namespace Go.Proofs.YtpinehfjimphmaaGreat.DI
open Go
set_option linter.unusedVariables false
/-! spec.l04Right -/
noncomputable def spec_l04Right.c : Code := bodyOf Tryz.f115
def spec_l04Right.h : Nat → Hint := look ⟨[], [], []⟩ []
def spec_l04Right.ps : List PK := [.one, .one, .one]
def spec_l04Right.rs : List RK := [.one true]
def spec_l04Right.vs : List ResultVar := [.tmp 6]
def spec_l04Right.x : Cx := ⟨tt, look none []⟩
def spec_l04Right.f (_k : Nat) (a0 : Int) (a1 : Int) (a2 : Int) : Option (Int) :=
  (bif (a1 == 0) then none else (bif (a1 == 0) then none else some (IntKind.u32.wrap ((IntKind.u32.wrap (a0.tdiv a1)) + (IntKind.u32.wrap ((a0.tmod a1) * a2))))))
def spec_l04Right.K : Ctr := ⟨spec_l04Right.ps, spec_l04Right.rs, false, (.two (.int .u32) (.two (.int .u32) (.int .u32))), (.int .u32), fun k x => spec_l04Right.f k x.1 x.2.1 x.2.2⟩
theorem spec_l04Right.eq (k : Nat) (x : (spec_l04Right.K.I).den) : func spec_l04Right.x spec_l04Right.h spec_l04Right.ps spec_l04Right.rs spec_l04Right.vs spec_l04Right.K.I spec_l04Right.K.O spec_l04Right.c k x = spec_l04Right.K.run k x := by
  show _ = spec_l04Right.f k x.1 x.2.1 x.2.2
  kernel_rfl
theorem spec_l04Right.ok : CtrOk Tryz.prog 115 spec_l04Right.K :=
  CtrOk.of (fn := Tryz.f115) (cd := spec_l04Right.c) (cx := spec_l04Right.x) (hs := spec_l04Right.h) (by kernel_rfl) (by kernel_rfl) (by kernel_rfl) (by kernel_rfl) tt_ok (envOk_nil) (by kernel_rfl) (by kernel_rfl) (by kernel_rfl) (by kernel_rfl) fun k x r h => (spec_l04Right.eq k x).trans h
/-! spec.l04S -/
noncomputable def spec_l04S.c : Code := bodyOf Tryz.f105
def spec_l04S.h : Nat → Hint := look ⟨[], [], []⟩ []
def spec_l04S.ps : List PK := [.one, .one, .one, .one, .one]
def spec_l04S.rs : List RK := [.one true]
def spec_l04S.vs : List ResultVar := [.tmp 10]
def spec_l04S.x : Cx := ⟨tt, look none [(115, some spec_l04Right.K)]⟩
def spec_l04S.f (k : Nat) (a0 : Int) (a1 : Int) (a2 : Int) (a3 : Int) (a4 : Bool) : Option (Int) :=
  (bif (a1 == 0) then none else (spec_l04Right.f k a0 a1 (IntKind.u32.wrap ((IntKind.u32.wrap ((2147483648 : Int).tdiv a1)) * (2 : Int)))).bind fun r1 => (bif (a2 == 0) then none else (spec_l04Right.f k a0 a2 (IntKind.u32.wrap ((IntKind.u32.wrap ((2147483648 : Int).tdiv a2)) * (2 : Int)))).bind fun r2 => (bif (a3 == 0) then none else (bif (!a4) then (bif (a3 == 0) then none else (spec_l04Right.f k a0 a3 (IntKind.u32.wrap ((IntKind.u32.wrap ((2147483648 : Int).tdiv a3)) * (2 : Int)))).bind fun r3 => some (IntKind.u32.wrap (((BitVec.ofInt IntKind.u32.bits (IntKind.u32.wrap (((BitVec.ofInt IntKind.u32.bits r1) ^^^ (BitVec.ofInt IntKind.u32.bits r2)).toNat : Int))) ^^^ (BitVec.ofInt IntKind.u32.bits r3)).toNat : Int))) else some (IntKind.u32.wrap (((BitVec.ofInt IntKind.u32.bits (IntKind.u32.wrap (((BitVec.ofInt IntKind.u32.bits r1) ^^^ (BitVec.ofInt IntKind.u32.bits r2)).toNat : Int))) ^^^ (BitVec.ofInt IntKind.u32.bits (IntKind.u32.wrap (a0.tdiv a3)))).toNat : Int))))))
def spec_l04S.K : Ctr := ⟨spec_l04S.ps, spec_l04S.rs, false, (.two (.int .u32) (.two (.int .u32) (.two (.int .u32) (.two (.int .u32) .bool)))), (.int .u32), fun k x => spec_l04S.f k x.1 x.2.1 x.2.2.1 x.2.2.2.1 x.2.2.2.2⟩
theorem spec_l04S.eq (k : Nat) (x : (spec_l04S.K.I).den) : func spec_l04S.x spec_l04S.h spec_l04S.ps spec_l04S.rs spec_l04S.vs spec_l04S.K.I spec_l04S.K.O spec_l04S.c k x = spec_l04S.K.run k x := by
  show _ = spec_l04S.f k x.1 x.2.1 x.2.2.1 x.2.2.2.1 x.2.2.2.2
  kernel_rfl
theorem spec_l04S.ok : CtrOk Tryz.prog 105 spec_l04S.K :=
  CtrOk.of (fn := Tryz.f105) (cd := spec_l04S.c) (cx := spec_l04S.x) (hs := spec_l04S.h) (by kernel_rfl) (by kernel_rfl) (by kernel_rfl) (by kernel_rfl) tt_ok (envOk_cons spec_l04Right.ok (envOk_nil)) (by kernel_rfl) (by kernel_rfl) (by kernel_rfl) (by kernel_rfl) fun k x r h => (spec_l04S.eq k x).trans h
/-! spec.l04Round -/
noncomputable def spec_l04Round.c : Code := bodyOf Tryz.f89
def spec_l04Round.h : Nat → Hint := look ⟨[], [], []⟩ [(0, ⟨[0, 1, 7, 8], [], [(.t 7, 2624, 121, (.int .u32))]⟩), (2, ⟨[0, 1, 7, 9, 10], [], [(.t 7, 2624, 121, (.int .u32)), (.t 9, 2625, 121, (.int .u32))]⟩), (4, ⟨[0, 1, 7, 9, 10, 13, 15, 16], [], [(.t 7, 2624, 121, (.int .u32)), (.t 9, 2625, 121, (.int .u32))]⟩), (6, ⟨[0, 9, 17, 18], [], [(.t 9, 2624, 121, (.int .u32)), (.t 17, 2625, 121, (.int .u32))]⟩)]
def spec_l04Round.ps : List PK := [.one, .one, .one]
def spec_l04Round.rs : List RK := [.one true]
def spec_l04Round.vs : List ResultVar := [.tmp 6]
def spec_l04Round.x : Cx := ⟨tt, look none [(87, some spec_l04Words.K), (105, some spec_l04S.K)]⟩
def spec_l04Round.s4 (_k : Nat) (rec2 : (Int × (List (Int)) × (List (Int)) × (List (Int)) × (List (Int))) → Option ((List (Int)))) (rec4 : (Int × Int × Int × Int × (List (Int)) × (List (Int)) × (List (Int)) × (List (Int))) → Option ((List (Int)))) (p : (Int × Int × Int × Int × (List (Int)) × (List (Int)) × (List (Int)) × (List (Int)))) : Option ((List (Int))) :=
  (bif (decide (p.2.2.2.1 > (0 : Int))) then (bif ((decide ((0 : Int) ≤ (IntKind.i64.wrap (p.2.2.2.1 - (1 : Int))))) && (decide ((IntKind.i64.wrap (p.2.2.2.1 - (1 : Int))) < (p.2.2.2.2.2.2.2.length : Int)))) then (p.2.2.2.2.2.2.2[(IntKind.i64.wrap (p.2.2.2.1 - (1 : Int))).toNat]?).bind fun x23 => (bif ((decide ((0 : Int) ≤ p.2.2.2.1)) && (decide (p.2.2.2.1 < (p.2.2.2.2.2.2.2.length : Int)))) then (p.2.2.2.2.2.2.2[p.2.2.2.1.toNat]?).bind fun x24 => rec4 (p.1, p.2.1, p.2.2.1, (IntKind.i64.wrap (p.2.2.2.1 - (1 : Int))), p.2.2.2.2.1, p.2.2.2.2.2.1, p.2.2.2.2.2.2.1, (p.2.2.2.2.2.2.2.set p.2.2.2.1.toNat x23)) else none) else none) else (bif (true && (decide ((4 : Int) < (p.2.2.2.2.2.2.2.length : Int)))) then (p.2.2.2.2.2.2.2[4]?).bind fun x25 => (bif (true && (decide ((4 : Int) < (p.2.2.2.2.2.2.2.length : Int)))) then (p.2.2.2.2.2.2.2[4]?).bind fun x26 => (bif (true && (decide ((0 : Int) < ((p.2.2.2.2.2.2.2.set 4 (IntKind.u32.wrap (x25 + p.2.1))).length : Int)))) then ((p.2.2.2.2.2.2.2.set 4 (IntKind.u32.wrap (x25 + p.2.1)))[0]?).bind fun x27 => rec2 ((IntKind.i64.wrap (p.1 + (1 : Int))), p.2.2.2.2.1, p.2.2.2.2.2.1, p.2.2.2.2.2.2.1, ((p.2.2.2.2.2.2.2.set 4 (IntKind.u32.wrap (x25 + p.2.1))).set 0 (IntKind.u32.wrap (p.2.1 + p.2.2.1)))) else none) else none) else none))
def spec_l04Round.l4 (k : Nat) (rec2 : (Int × (List (Int)) × (List (Int)) × (List (Int)) × (List (Int))) → Option ((List (Int)))) : Nat → (Int × Int × Int × Int × (List (Int)) × (List (Int)) × (List (Int)) × (List (Int))) → Option ((List (Int)))
  | 0 => fun _ => none
  | j + 1 => spec_l04Round.s4 k rec2 (spec_l04Round.l4 k rec2 j)
def spec_l04Round.s6 (_k : Nat) (rec6 : (Int × (List (Int)) × (List (Int)) × (List (Int)) × (List (Int))) → Option ((List (Int)))) (p : (Int × (List (Int)) × (List (Int)) × (List (Int)) × (List (Int)))) : Option ((List (Int))) :=
  (bif (decide (p.1 < (8 : Int))) then (bif ((decide ((0 : Int) ≤ p.1)) && (decide (p.1 < (p.2.1.length : Int)))) then (p.2.1[p.1.toNat]?).bind fun x28 => (bif ((decide ((0 : Int) ≤ p.1)) && (decide (p.1 < (p.2.2.2.1.length : Int)))) then (p.2.2.2.1[p.1.toNat]?).bind fun x29 => (bif decide ((p.2.2.2.2.length + [(IntKind.u32.wrap (x28 + x29))].length) * 4 ≤ 140737488355328) then rec6 ((IntKind.i64.wrap (p.1 + (1 : Int))), p.2.1, p.2.2.1, p.2.2.2.1, (p.2.2.2.2 ++ [(IntKind.u32.wrap (x28 + x29))])) else none) else none) else none) else some p.2.2.2.2)
def spec_l04Round.l6 (k : Nat) : Nat → (Int × (List (Int)) × (List (Int)) × (List (Int)) × (List (Int))) → Option ((List (Int)))
  | 0 => fun _ => none
  | j + 1 => spec_l04Round.s6 k (spec_l04Round.l6 k j)
def spec_l04Round.s2 (k : Nat) (_rec2 : (Int × (List (Int)) × (List (Int)) × (List (Int)) × (List (Int))) → Option ((List (Int)))) (i4 : (Int × Int × Int × Int × (List (Int)) × (List (Int)) × (List (Int)) × (List (Int))) → Option ((List (Int)))) (i6 : (Int × (List (Int)) × (List (Int)) × (List (Int)) × (List (Int))) → Option ((List (Int)))) (p : (Int × (List (Int)) × (List (Int)) × (List (Int)) × (List (Int)))) : Option ((List (Int))) :=
  (bif (decide (p.1 < (64 : Int))) then (bif (true && (decide ((4 : Int) < (p.2.2.2.2.length : Int)))) then (p.2.2.2.2[4]?).bind fun x8 => (bif (true && (decide ((5 : Int) < (p.2.2.2.2.length : Int)))) then (p.2.2.2.2[5]?).bind fun x9 => (bif (true && (decide ((6 : Int) < (p.2.2.2.2.length : Int)))) then (p.2.2.2.2[6]?).bind fun x10 => (bif (true && (decide ((7 : Int) < (p.2.2.2.2.length : Int)))) then (p.2.2.2.2[7]?).bind fun x11 => (spec_l04S.f k x8 (64 : Int) (2048 : Int) (33554432 : Int) false).bind fun r12 => (bif ((decide ((0 : Int) ≤ p.1)) && (decide (p.1 < (p.2.2.1.length : Int)))) then (p.2.2.1[p.1.toNat]?).bind fun x13 => (bif ((decide ((0 : Int) ≤ p.1)) && (decide (p.1 < (p.2.2.2.1.length : Int)))) then (p.2.2.2.1[p.1.toNat]?).bind fun x14 => (bif (true && (decide ((0 : Int) < (p.2.2.2.2.length : Int)))) then (p.2.2.2.2[0]?).bind fun x15 => (bif (true && (decide ((1 : Int) < (p.2.2.2.2.length : Int)))) then (p.2.2.2.2[1]?).bind fun x16 => (bif (true && (decide ((0 : Int) < (p.2.2.2.2.length : Int)))) then (p.2.2.2.2[0]?).bind fun x17 => (bif (true && (decide ((2 : Int) < (p.2.2.2.2.length : Int)))) then (p.2.2.2.2[2]?).bind fun x18 => (bif (true && (decide ((1 : Int) < (p.2.2.2.2.length : Int)))) then (p.2.2.2.2[1]?).bind fun x19 => (bif (true && (decide ((2 : Int) < (p.2.2.2.2.length : Int)))) then (p.2.2.2.2[2]?).bind fun x20 => (bif (true && (decide ((0 : Int) < (p.2.2.2.2.length : Int)))) then (p.2.2.2.2[0]?).bind fun x21 => (spec_l04S.f k x21 (4 : Int) (8192 : Int) (4194304 : Int) false).bind fun r22 => i4 (p.1, (IntKind.u32.wrap ((IntKind.u32.wrap ((IntKind.u32.wrap ((IntKind.u32.wrap (x11 + r12)) + (IntKind.u32.wrap (((BitVec.ofInt IntKind.u32.bits (IntKind.u32.wrap (((BitVec.ofInt IntKind.u32.bits x8) &&& (BitVec.ofInt IntKind.u32.bits x9)).toNat : Int))) ^^^ (BitVec.ofInt IntKind.u32.bits (IntKind.u32.wrap (((BitVec.ofInt IntKind.u32.bits (IntKind.u32.wrap ((4294967295 : Int) - x8))) &&& (BitVec.ofInt IntKind.u32.bits x10)).toNat : Int)))).toNat : Int)))) + x13)) + x14)), (IntKind.u32.wrap (r22 + (IntKind.u32.wrap (((BitVec.ofInt IntKind.u32.bits (IntKind.u32.wrap (((BitVec.ofInt IntKind.u32.bits (IntKind.u32.wrap (((BitVec.ofInt IntKind.u32.bits x15) &&& (BitVec.ofInt IntKind.u32.bits x16)).toNat : Int))) ^^^ (BitVec.ofInt IntKind.u32.bits (IntKind.u32.wrap (((BitVec.ofInt IntKind.u32.bits x17) &&& (BitVec.ofInt IntKind.u32.bits x18)).toNat : Int)))).toNat : Int))) ^^^ (BitVec.ofInt IntKind.u32.bits (IntKind.u32.wrap (((BitVec.ofInt IntKind.u32.bits x19) &&& (BitVec.ofInt IntKind.u32.bits x20)).toNat : Int)))).toNat : Int)))), (7 : Int), p.2.1, p.2.2.1, p.2.2.2.1, p.2.2.2.2) else none) else none) else none) else none) else none) else none) else none) else none) else none) else none) else none) else none) else none) else i6 ((0 : Int), p.2.1, p.2.2.1, p.2.2.2.2, ([] : List (Int))))
def spec_l04Round.l2 (k : Nat) : Nat → (Int × (List (Int)) × (List (Int)) × (List (Int)) × (List (Int))) → Option ((List (Int)))
  | 0 => fun _ => none
  | j + 1 => spec_l04Round.s2 k (spec_l04Round.l2 k j) (spec_l04Round.l4 k (spec_l04Round.l2 k j) k) (spec_l04Round.l6 k k)
def spec_l04Round.s0 (k : Nat) (rec0 : (Int × (List (Int)) × (List (Int)) × (List (Int))) → Option ((List (Int)))) (i2 : (Int × (List (Int)) × (List (Int)) × (List (Int)) × (List (Int))) → Option ((List (Int)))) (p : (Int × (List (Int)) × (List (Int)) × (List (Int)))) : Option ((List (Int))) :=
  (bif (decide (p.1 < (64 : Int))) then (bif ((decide ((0 : Int) ≤ (IntKind.i64.wrap (p.1 - (2 : Int))))) && (decide ((IntKind.i64.wrap (p.1 - (2 : Int))) < (p.2.2.2.length : Int)))) then (p.2.2.2[(IntKind.i64.wrap (p.1 - (2 : Int))).toNat]?).bind fun x2 => (spec_l04S.f k x2 (131072 : Int) (524288 : Int) (1024 : Int) true).bind fun r3 => (bif ((decide ((0 : Int) ≤ (IntKind.i64.wrap (p.1 - (7 : Int))))) && (decide ((IntKind.i64.wrap (p.1 - (7 : Int))) < (p.2.2.2.length : Int)))) then (p.2.2.2[(IntKind.i64.wrap (p.1 - (7 : Int))).toNat]?).bind fun x4 => (bif ((decide ((0 : Int) ≤ (IntKind.i64.wrap (p.1 - (15 : Int))))) && (decide ((IntKind.i64.wrap (p.1 - (15 : Int))) < (p.2.2.2.length : Int)))) then (p.2.2.2[(IntKind.i64.wrap (p.1 - (15 : Int))).toNat]?).bind fun x5 => (spec_l04S.f k x5 (128 : Int) (262144 : Int) (8 : Int) true).bind fun r6 => (bif ((decide ((0 : Int) ≤ (IntKind.i64.wrap (p.1 - (16 : Int))))) && (decide ((IntKind.i64.wrap (p.1 - (16 : Int))) < (p.2.2.2.length : Int)))) then (p.2.2.2[(IntKind.i64.wrap (p.1 - (16 : Int))).toNat]?).bind fun x7 => (bif decide ((p.2.2.2.length + [(IntKind.u32.wrap ((IntKind.u32.wrap ((IntKind.u32.wrap (r3 + x4)) + r6)) + x7))].length) * 4 ≤ 140737488355328) then rec0 ((IntKind.i64.wrap (p.1 + (1 : Int))), p.2.1, p.2.2.1, (p.2.2.2 ++ [(IntKind.u32.wrap ((IntKind.u32.wrap ((IntKind.u32.wrap (r3 + x4)) + r6)) + x7))])) else none) else none) else none) else none) else none) else (bif decide ((([] : List (Int)).length + p.2.1.length) * 4 ≤ 140737488355328) then i2 ((0 : Int), p.2.1, p.2.2.1, p.2.2.2, (([] : List (Int)) ++ p.2.1)) else none))
def spec_l04Round.l0 (k : Nat) : Nat → (Int × (List (Int)) × (List (Int)) × (List (Int))) → Option ((List (Int)))
  | 0 => fun _ => none
  | j + 1 => spec_l04Round.s0 k (spec_l04Round.l0 k j) (spec_l04Round.l2 k k)
def spec_l04Round.S4 (p : (Int × Int × Int × Int × (List (Int)) × (List (Int)) × (List (Int)) × (List (Int)))) : DS := ⟨tl [(0, .at (.whole 0)), (1, .at (.whole 16)), (7, .at (.whole 2624)), (9, .at (.whole 2625)), (10, .at (.int .i64 p.1)), (13, .at (.int .u32 p.2.1)), (15, .at (.int .u32 p.2.2.1)), (16, .at (.int .i64 p.2.2.2.1))], lookO [(0, .row 121 (.int .u32) false p.2.2.2.2.1), (16, .row 121 (.int .u32) false p.2.2.2.2.2.1), (2624, .row 121 (.int .u32) true p.2.2.2.2.2.2.1), (2625, .row 121 (.int .u32) true p.2.2.2.2.2.2.2)]⟩
def spec_l04Round.S6 (p : (Int × (List (Int)) × (List (Int)) × (List (Int)) × (List (Int)))) : DS := ⟨tl [(0, .at (.whole 0)), (9, .at (.whole 2624)), (17, .at (.whole 2625)), (18, .at (.int .i64 p.1))], lookO [(0, .row 121 (.int .u32) false p.2.1), (16, .row 121 (.int .u32) false p.2.2.1), (2624, .row 121 (.int .u32) true p.2.2.2.1), (2625, .row 121 (.int .u32) true p.2.2.2.2)]⟩
def spec_l04Round.S2 (p : (Int × (List (Int)) × (List (Int)) × (List (Int)) × (List (Int)))) : DS := ⟨tl [(0, .at (.whole 0)), (1, .at (.whole 16)), (7, .at (.whole 2624)), (9, .at (.whole 2625)), (10, .at (.int .i64 p.1))], lookO [(0, .row 121 (.int .u32) false p.2.1), (16, .row 121 (.int .u32) false p.2.2.1), (2624, .row 121 (.int .u32) true p.2.2.2.1), (2625, .row 121 (.int .u32) true p.2.2.2.2)]⟩
def spec_l04Round.S0 (p : (Int × (List (Int)) × (List (Int)) × (List (Int)))) : DS := ⟨tl [(0, .at (.whole 0)), (1, .at (.whole 16)), (7, .at (.whole 2624)), (8, .at (.int .i64 p.1))], lookO [(0, .row 121 (.int .u32) false p.2.1), (16, .row 121 (.int .u32) false p.2.2.1), (2624, .row 121 (.int .u32) true p.2.2.2)]⟩
noncomputable def spec_l04Round.D4 (k : Nat) (j2 : Nat) (j : Nat) (p : (Int × Int × Int × Int × (List (Int)) × (List (Int)) × (List (Int)) × (List (Int)))) : Option ((List (Int))) := loopK (normK [0, 16] (spec_l04Round.h 4)) (runK spec_l04Round.x k 0 [0, 16] spec_l04Round.h 4 (sub spec_l04Round.c [1, 1, 1, 1, 0, 1, 0, 0, 1, 0, 0, 1, 1, 1, 1, 1, 0, 1, 0, 0])) j (spec_l04Round.S4 p) (kBlk 4 (kSeq (runK spec_l04Round.x k 0 [0, 16] spec_l04Round.h 3 (sub spec_l04Round.c [1, 1, 1, 1, 0, 1, 0, 0, 1, 0, 0, 1, 1, 1, 1, 1, 1])) (kBlk 3 (kSeq (runK spec_l04Round.x k 0 [0, 16] spec_l04Round.h 2 (sub spec_l04Round.c [1, 1, 1, 1, 0, 1, 0, 0, 1, 1])) (kSeq (fun s' K => normK [0, 16] (spec_l04Round.h 2) s' fun s => loopK (normK [0, 16] (spec_l04Round.h 2)) (runK spec_l04Round.x k 0 [0, 16] spec_l04Round.h 2 (sub spec_l04Round.c [1, 1, 1, 1, 0, 1, 0, 0])) j2 s K) (kBlk 2 (kSeq (runK spec_l04Round.x k 0 [0, 16] spec_l04Round.h 0 (sub spec_l04Round.c [1, 1, 1, 1, 1])) (fin tt spec_l04Round.ps spec_l04Round.rs spec_l04Round.vs (.sl 121 (.int .u32))))))))))
noncomputable def spec_l04Round.D6 (k : Nat) (j : Nat) (p : (Int × (List (Int)) × (List (Int)) × (List (Int)) × (List (Int)))) : Option ((List (Int))) := loopK (normK [0, 16] (spec_l04Round.h 6)) (runK spec_l04Round.x k 0 [0, 16] spec_l04Round.h 6 (sub spec_l04Round.c [1, 1, 1, 1, 1, 1, 0, 1, 0, 0])) j (spec_l04Round.S6 p) (kBlk 6 (kSeq (runK spec_l04Round.x k 0 [0, 16] spec_l04Round.h 0 (sub spec_l04Round.c [1, 1, 1, 1, 1, 1, 1])) (fin tt spec_l04Round.ps spec_l04Round.rs spec_l04Round.vs (.sl 121 (.int .u32)))))
noncomputable def spec_l04Round.D2 (k : Nat) (j : Nat) (p : (Int × (List (Int)) × (List (Int)) × (List (Int)) × (List (Int)))) : Option ((List (Int))) := loopK (normK [0, 16] (spec_l04Round.h 2)) (runK spec_l04Round.x k 0 [0, 16] spec_l04Round.h 2 (sub spec_l04Round.c [1, 1, 1, 1, 0, 1, 0, 0])) j (spec_l04Round.S2 p) (kBlk 2 (kSeq (runK spec_l04Round.x k 0 [0, 16] spec_l04Round.h 0 (sub spec_l04Round.c [1, 1, 1, 1, 1])) (fin tt spec_l04Round.ps spec_l04Round.rs spec_l04Round.vs (.sl 121 (.int .u32)))))
noncomputable def spec_l04Round.D0 (k : Nat) (j : Nat) (p : (Int × (List (Int)) × (List (Int)) × (List (Int)))) : Option ((List (Int))) := loopK (normK [0, 16] (spec_l04Round.h 0)) (runK spec_l04Round.x k 0 [0, 16] spec_l04Round.h 0 (sub spec_l04Round.c [1, 1, 0, 1, 0, 0])) j (spec_l04Round.S0 p) (kBlk 0 (kSeq (runK spec_l04Round.x k 0 [0, 16] spec_l04Round.h 0 (sub spec_l04Round.c [1, 1, 1])) (fin tt spec_l04Round.ps spec_l04Round.rs spec_l04Round.vs (.sl 121 (.int .u32)))))
theorem spec_l04Round.D4_eq (k : Nat) (j2 : Nat) : ∀ j, spec_l04Round.D4 k j2 j = spec_l04Round.l4 k (spec_l04Round.D2 k j2) j := by
  intro j
  induction j with
  | zero => rfl
  | succ j ih =>
    show _ = spec_l04Round.s4 k (spec_l04Round.D2 k j2) (spec_l04Round.l4 k (spec_l04Round.D2 k j2) j)
    rw [← ih]
    funext p
    kernel_rfl
theorem spec_l04Round.D6_eq (k : Nat) : ∀ j, spec_l04Round.D6 k j = spec_l04Round.l6 k j := by
  intro j
  induction j with
  | zero => rfl
  | succ j ih =>
    show _ = spec_l04Round.s6 k (spec_l04Round.l6 k j)
    rw [← ih]
    funext p
    kernel_rfl
theorem spec_l04Round.D2_eq (k : Nat) : ∀ j, spec_l04Round.D2 k j = spec_l04Round.l2 k j := by
  intro j
  induction j with
  | zero => rfl
  | succ j ih =>
    show _ = spec_l04Round.s2 k (spec_l04Round.l2 k j) (spec_l04Round.l4 k (spec_l04Round.l2 k j) k) (spec_l04Round.l6 k k)
    rw [← ih, ← spec_l04Round.D4_eq k j k, ← spec_l04Round.D6_eq k k]
    funext p
    kernel_rfl
theorem spec_l04Round.D0_eq (k : Nat) : ∀ j, spec_l04Round.D0 k j = spec_l04Round.l0 k j := by
  intro j
  induction j with
  | zero => rfl
  | succ j ih =>
    show _ = spec_l04Round.s0 k (spec_l04Round.l0 k j) (spec_l04Round.l2 k k)
    rw [← ih, ← spec_l04Round.D2_eq k k]
    funext p
    kernel_rfl
def spec_l04Round.f (k : Nat) (a0 : List (Int)) (a1 : List (Int)) (a2 : ByteArray) : Option ((List (Int))) :=
  (spec_l04Words.f k a2).bind fun r1 => spec_l04Round.l0 k k ((16 : Int), a0, a1, r1)
def spec_l04Round.K : Ctr := ⟨spec_l04Round.ps, spec_l04Round.rs, false, (.two (.sl 121 (.int .u32)) (.two (.sl 121 (.int .u32)) .str)), (.sl 121 (.int .u32)), fun k x => spec_l04Round.f k x.1 x.2.1 x.2.2⟩
theorem spec_l04Round.eq (k : Nat) (x : (spec_l04Round.K.I).den) : func spec_l04Round.x spec_l04Round.h spec_l04Round.ps spec_l04Round.rs spec_l04Round.vs spec_l04Round.K.I spec_l04Round.K.O spec_l04Round.c k x = spec_l04Round.K.run k x := by
  show _ = spec_l04Round.f k x.1 x.2.1 x.2.2
  unfold spec_l04Round.f
  rw [← spec_l04Round.D0_eq k k]
  kernel_rfl
theorem spec_l04Round.ok : CtrOk Tryz.prog 89 spec_l04Round.K :=
  CtrOk.of (fn := Tryz.f89) (cd := spec_l04Round.c) (cx := spec_l04Round.x) (hs := spec_l04Round.h) (by kernel_rfl) (by kernel_rfl) (by kernel_rfl) (by kernel_rfl) tt_ok (envOk_cons spec_l04Words.ok (envOk_cons spec_l04S.ok (envOk_nil))) (by kernel_rfl) (by kernel_rfl) (by kernel_rfl) (by kernel_rfl) fun k x r h => (spec_l04Round.eq k x).trans h
/-! spec.HashMore -/
noncomputable def spec_HashMore.c : Code := bodyOf Tryz.f71
def spec_HashMore.h : Nat → Hint := look ⟨[], [], []⟩ [(0, ⟨[1, 2, 4, 5, 6, 7, 8], [32, 64], [(.t 5, 880, 121, (.int .u32)), (.t 6, 881, 121, (.int .u32))]⟩)]
def spec_HashMore.ps : List PK := [.agg 3, .one]
def spec_HashMore.rs : List RK := [.agg 3 true]
def spec_HashMore.vs : List ResultVar := [.cell 4 91]
def spec_HashMore.x : Cx := ⟨tt, look none [(86, some spec_HasherOk.K), (87, some spec_l04Words.K), (88, some spec_l04K.K), (89, some spec_l04Round.K), (90, some spec_l04Bytes.K)]⟩
def spec_HashMore.s0 (k : Nat) (rec0 : (ByteArray × ByteArray × Int × ByteArray × ByteArray × Int × ByteArray × ByteArray × Int × (List (Int)) × (List (Int))) → Option (ByteArray × ByteArray × Int)) (p : (ByteArray × ByteArray × Int × ByteArray × ByteArray × Int × ByteArray × ByteArray × Int × (List (Int)) × (List (Int)))) : Option (ByteArray × ByteArray × Int) :=
  (bif (decide ((IntKind.i64.wrap (p.2.2.1 + (64 : Int))) ≤ (p.2.1.size : Int))) then (bif ((decide ((0 : Int) ≤ p.2.2.1)) && ((decide (p.2.2.1 ≤ (IntKind.i64.wrap (p.2.2.1 + (64 : Int))))) && (decide ((IntKind.i64.wrap (p.2.2.1 + (64 : Int))) ≤ (p.2.1.size : Int))))) then (spec_l04Round.f k p.2.2.2.2.2.2.2.2.2.1 p.2.2.2.2.2.2.2.2.2.2 (p.2.1.extract p.2.2.1.toNat (IntKind.i64.wrap (p.2.2.1 + (64 : Int))).toNat)).bind fun r4 => rec0 (p.1, p.2.1, (IntKind.i64.wrap (p.2.2.1 + (64 : Int))), p.2.2.2.1, p.2.2.2.2.1, p.2.2.2.2.2.1, p.2.2.2.2.2.2.1, p.2.2.2.2.2.2.2.1, p.2.2.2.2.2.2.2.2.1, r4, p.2.2.2.2.2.2.2.2.2.2) else none) else (spec_l04Bytes.f k p.2.2.2.2.2.2.2.2.2.1).bind fun r5 => (bif ((decide ((0 : Int) ≤ p.2.2.1)) && (decide (p.2.2.1 ≤ (p.2.1.size : Int)))) then some (r5, (p.2.1.extract p.2.2.1.toNat p.2.1.size), (IntKind.i64.wrap (p.2.2.2.2.2.1 + (p.1.size : Int)))) else none))
def spec_HashMore.l0 (k : Nat) : Nat → (ByteArray × ByteArray × Int × ByteArray × ByteArray × Int × ByteArray × ByteArray × Int × (List (Int)) × (List (Int))) → Option (ByteArray × ByteArray × Int)
  | 0 => fun _ => none
  | j + 1 => spec_HashMore.s0 k (spec_HashMore.l0 k j)
def spec_HashMore.S0 (p : (ByteArray × ByteArray × Int × ByteArray × ByteArray × Int × ByteArray × ByteArray × Int × (List (Int)) × (List (Int)))) : DS := ⟨tl [(1, .at (.str p.1)), (2, .at (.bptr 32 0)), (4, .at (.bptr 64 0)), (5, .at (.whole 880)), (6, .at (.whole 881)), (7, .at (.str p.2.1)), (8, .at (.int .i64 p.2.2.1))], lookO [(32, .box 91 [.str p.2.2.2.1, .str p.2.2.2.2.1, .int .i64 p.2.2.2.2.2.1]), (64, .box 91 [.str p.2.2.2.2.2.2.1, .str p.2.2.2.2.2.2.2.1, .int .i64 p.2.2.2.2.2.2.2.2.1]), (880, .row 121 (.int .u32) true p.2.2.2.2.2.2.2.2.2.1), (881, .row 121 (.int .u32) true p.2.2.2.2.2.2.2.2.2.2)]⟩
noncomputable def spec_HashMore.D0 (k : Nat) (j : Nat) (p : (ByteArray × ByteArray × Int × ByteArray × ByteArray × Int × ByteArray × ByteArray × Int × (List (Int)) × (List (Int)))) : Option (ByteArray × ByteArray × Int) := loopK (normK [] (spec_HashMore.h 0)) (runK spec_HashMore.x k 0 [] spec_HashMore.h 0 (sub spec_HashMore.c [1, 1, 1, 1, 1, 1, 0, 0, 0])) j (spec_HashMore.S0 p) (kBlk 0 (kSeq (runK spec_HashMore.x k 0 [] spec_HashMore.h 0 (sub spec_HashMore.c [1, 1, 1, 1, 1, 1, 1])) (fin tt spec_HashMore.ps spec_HashMore.rs spec_HashMore.vs (.two .str (.two .str (.int .i64))))))
theorem spec_HashMore.D0_eq (k : Nat) : ∀ j, spec_HashMore.D0 k j = spec_HashMore.l0 k j := by
  intro j
  induction j with
  | zero => rfl
  | succ j ih =>
    show _ = spec_HashMore.s0 k (spec_HashMore.l0 k j)
    rw [← ih]
    funext p
    kernel_rfl
def spec_HashMore.f (k : Nat) (a0_0 : ByteArray) (a0_1 : ByteArray) (a0_2 : Int) (a1 : ByteArray) : Option (ByteArray × ByteArray × Int) :=
  (spec_HasherOk.f k a0_0 a0_1 a0_2).bind fun r1 => (bif (!r1) then some (a0_0, a0_1, a0_2) else (bif (decide ((IntKind.i64.wrap (a0_2 + (a1.size : Int))) > (1000000000 : Int))) then some (a0_0, a0_1, a0_2) else (spec_l04Words.f k a0_0).bind fun r2 => (spec_l04K.f k).bind fun r3 => (bif decide (a0_1.size + a1.size ≤ 140737488351232) then spec_HashMore.l0 k k (a1, (a0_1 ++ a1), (0 : Int), a0_0, a0_1, a0_2, ByteArray.empty, ByteArray.empty, (0 : Int), r2, r3) else none)))
def spec_HashMore.K : Ctr := ⟨spec_HashMore.ps, spec_HashMore.rs, false, (.two .str (.two .str (.two (.int .i64) .str))), (.two .str (.two .str (.int .i64))), fun k x => spec_HashMore.f k x.1 x.2.1 x.2.2.1 x.2.2.2⟩
theorem spec_HashMore.eq (k : Nat) (x : (spec_HashMore.K.I).den) : func spec_HashMore.x spec_HashMore.h spec_HashMore.ps spec_HashMore.rs spec_HashMore.vs spec_HashMore.K.I spec_HashMore.K.O spec_HashMore.c k x = spec_HashMore.K.run k x := by
  show _ = spec_HashMore.f k x.1 x.2.1 x.2.2.1 x.2.2.2
  unfold spec_HashMore.f
  rw [← spec_HashMore.D0_eq k k]
  kernel_rfl
theorem spec_HashMore.ok : CtrOk Tryz.prog 71 spec_HashMore.K :=
  CtrOk.of (fn := Tryz.f71) (cd := spec_HashMore.c) (cx := spec_HashMore.x) (hs := spec_HashMore.h) (by kernel_rfl) (by kernel_rfl) (by kernel_rfl) (by kernel_rfl) tt_ok (envOk_cons spec_HasherOk.ok (envOk_cons spec_l04Words.ok (envOk_cons spec_l04K.ok (envOk_cons spec_l04Round.ok (envOk_cons spec_l04Bytes.ok (envOk_nil)))))) (by kernel_rfl) (by kernel_rfl) (by kernel_rfl) (by kernel_rfl) fun k x r h => (spec_HashMore.eq k x).trans h
/-! spec.HashEnd -/
noncomputable def spec_HashEnd.c : Code := bodyOf Tryz.f70
def spec_HashEnd.h : Nat → Hint := look ⟨[], [], []⟩ [(0, ⟨[1, 3], [16], [(.t 3, 1104, 5, (.int .u8))]⟩), (2, ⟨[1, 3, 4, 5], [16], [(.t 3, 1104, 5, (.int .u8))]⟩), (4, ⟨[1, 3, 4, 5, 6, 7], [16], [(.t 3, 1104, 5, (.int .u8))]⟩), (6, ⟨[3, 8, 9, 10], [], [(.t 3, 1104, 5, (.int .u8)), (.t 8, 1105, 121, (.int .u32)), (.t 9, 1106, 121, (.int .u32))]⟩)]
def spec_HashEnd.ps : List PK := [.agg 3]
def spec_HashEnd.rs : List RK := [.one true]
def spec_HashEnd.vs : List ResultVar := [.tmp 2]
def spec_HashEnd.x : Cx := ⟨tt, look none [(86, some spec_HasherOk.K), (87, some spec_l04Words.K), (88, some spec_l04K.K), (89, some spec_l04Round.K), (90, some spec_l04Bytes.K)]⟩
def spec_HashEnd.s4 (_k : Nat) (rec2 : (Int × Int × ByteArray × ByteArray × Int × (List (Int))) → Option (ByteArray)) (rec4 : (Int × Int × Int × Int × ByteArray × ByteArray × Int × (List (Int))) → Option (ByteArray)) (p : (Int × Int × Int × Int × ByteArray × ByteArray × Int × (List (Int)))) : Option (ByteArray) :=
  (bif (decide (p.2.2.2.1 < p.2.1)) then rec4 (p.1, p.2.1, (IntKind.i64.wrap (p.2.2.1.tdiv (256 : Int))), (IntKind.i64.wrap (p.2.2.2.1 + (1 : Int))), p.2.2.2.2.1, p.2.2.2.2.2.1, p.2.2.2.2.2.2.1, p.2.2.2.2.2.2.2) else (bif decide ((p.2.2.2.2.2.2.2.length + [(IntKind.u8.wrap (p.2.2.1.tmod (256 : Int)))].length) * 1 ≤ 140737488355328) then rec2 (p.1, (IntKind.i64.wrap (p.2.1 - (1 : Int))), p.2.2.2.2.1, p.2.2.2.2.2.1, p.2.2.2.2.2.2.1, (p.2.2.2.2.2.2.2 ++ [(IntKind.u8.wrap (p.2.2.1.tmod (256 : Int)))])) else none))
def spec_HashEnd.l4 (k : Nat) (rec2 : (Int × Int × ByteArray × ByteArray × Int × (List (Int))) → Option (ByteArray)) : Nat → (Int × Int × Int × Int × ByteArray × ByteArray × Int × (List (Int))) → Option (ByteArray)
  | 0 => fun _ => none
  | j + 1 => spec_HashEnd.s4 k rec2 (spec_HashEnd.l4 k rec2 j)
def spec_HashEnd.s6 (k : Nat) (rec6 : (Int × (List (Int)) × (List (Int)) × (List (Int))) → Option (ByteArray)) (p : (Int × (List (Int)) × (List (Int)) × (List (Int)))) : Option (ByteArray) :=
  (bif (decide (p.1 < (p.2.1.length : Int))) then (bif ((decide ((0 : Int) ≤ p.1)) && ((decide (p.1 ≤ (IntKind.i64.wrap (p.1 + (64 : Int))))) && (decide ((IntKind.i64.wrap (p.1 + (64 : Int))) ≤ (p.2.1.length : Int))))) then (spec_l04Round.f k p.2.2.1 p.2.2.2 (strOfNums ((p.2.1.drop p.1.toNat).take ((IntKind.i64.wrap (p.1 + (64 : Int))).toNat - p.1.toNat)))).bind fun r4 => rec6 ((IntKind.i64.wrap (p.1 + (64 : Int))), p.2.1, r4, p.2.2.2) else none) else (spec_l04Bytes.f k p.2.2.1).bind fun r5 => some r5)
def spec_HashEnd.l6 (k : Nat) : Nat → (Int × (List (Int)) × (List (Int)) × (List (Int))) → Option (ByteArray)
  | 0 => fun _ => none
  | j + 1 => spec_HashEnd.s6 k (spec_HashEnd.l6 k j)
def spec_HashEnd.s2 (k : Nat) (_rec2 : (Int × Int × ByteArray × ByteArray × Int × (List (Int))) → Option (ByteArray)) (i4 : (Int × Int × Int × Int × ByteArray × ByteArray × Int × (List (Int))) → Option (ByteArray)) (i6 : (Int × (List (Int)) × (List (Int)) × (List (Int))) → Option (ByteArray)) (p : (Int × Int × ByteArray × ByteArray × Int × (List (Int)))) : Option (ByteArray) :=
  (bif (decide (p.2.1 ≥ (0 : Int))) then i4 (p.1, p.2.1, p.1, (0 : Int), p.2.2.1, p.2.2.2.1, p.2.2.2.2.1, p.2.2.2.2.2) else (spec_l04Words.f k p.2.2.1).bind fun r2 => (spec_l04K.f k).bind fun r3 => i6 ((0 : Int), p.2.2.2.2.2, r2, r3))
def spec_HashEnd.l2 (k : Nat) : Nat → (Int × Int × ByteArray × ByteArray × Int × (List (Int))) → Option (ByteArray)
  | 0 => fun _ => none
  | j + 1 => spec_HashEnd.s2 k (spec_HashEnd.l2 k j) (spec_HashEnd.l4 k (spec_HashEnd.l2 k j) k) (spec_HashEnd.l6 k k)
def spec_HashEnd.s0 (_k : Nat) (rec0 : (ByteArray × ByteArray × Int × (List (Int))) → Option (ByteArray)) (i2 : (Int × Int × ByteArray × ByteArray × Int × (List (Int))) → Option (ByteArray)) (p : (ByteArray × ByteArray × Int × (List (Int)))) : Option (ByteArray) :=
  (bif (((p.2.2.2.length : Int).tmod (64 : Int)) != (56 : Int)) then (bif decide ((p.2.2.2.length + [(0 : Int)].length) * 1 ≤ 140737488355328) then rec0 (p.1, p.2.1, p.2.2.1, (p.2.2.2 ++ [(0 : Int)])) else none) else i2 ((IntKind.i64.wrap ((8 : Int) * p.2.2.1)), (7 : Int), p.1, p.2.1, p.2.2.1, p.2.2.2))
def spec_HashEnd.l0 (k : Nat) : Nat → (ByteArray × ByteArray × Int × (List (Int))) → Option (ByteArray)
  | 0 => fun _ => none
  | j + 1 => spec_HashEnd.s0 k (spec_HashEnd.l0 k j) (spec_HashEnd.l2 k k)
def spec_HashEnd.S4 (p : (Int × Int × Int × Int × ByteArray × ByteArray × Int × (List (Int)))) : DS := ⟨tl [(1, .at (.bptr 16 0)), (3, .at (.whole 1104)), (4, .at (.int .i64 p.1)), (5, .at (.int .i64 p.2.1)), (6, .at (.int .i64 p.2.2.1)), (7, .at (.int .i64 p.2.2.2.1))], lookO [(16, .box 91 [.str p.2.2.2.2.1, .str p.2.2.2.2.2.1, .int .i64 p.2.2.2.2.2.2.1]), (1104, .row 5 (.int .u8) true p.2.2.2.2.2.2.2)]⟩
def spec_HashEnd.S6 (p : (Int × (List (Int)) × (List (Int)) × (List (Int)))) : DS := ⟨tl [(3, .at (.whole 1104)), (8, .at (.whole 1105)), (9, .at (.whole 1106)), (10, .at (.int .i64 p.1))], lookO [(1104, .row 5 (.int .u8) true p.2.1), (1105, .row 121 (.int .u32) true p.2.2.1), (1106, .row 121 (.int .u32) true p.2.2.2)]⟩
def spec_HashEnd.S2 (p : (Int × Int × ByteArray × ByteArray × Int × (List (Int)))) : DS := ⟨tl [(1, .at (.bptr 16 0)), (3, .at (.whole 1104)), (4, .at (.int .i64 p.1)), (5, .at (.int .i64 p.2.1))], lookO [(16, .box 91 [.str p.2.2.1, .str p.2.2.2.1, .int .i64 p.2.2.2.2.1]), (1104, .row 5 (.int .u8) true p.2.2.2.2.2)]⟩
def spec_HashEnd.S0 (p : (ByteArray × ByteArray × Int × (List (Int)))) : DS := ⟨tl [(1, .at (.bptr 16 0)), (3, .at (.whole 1104))], lookO [(16, .box 91 [.str p.1, .str p.2.1, .int .i64 p.2.2.1]), (1104, .row 5 (.int .u8) true p.2.2.2)]⟩
noncomputable def spec_HashEnd.D4 (k : Nat) (j2 : Nat) (j : Nat) (p : (Int × Int × Int × Int × ByteArray × ByteArray × Int × (List (Int)))) : Option (ByteArray) := loopK (normK [] (spec_HashEnd.h 4)) (runK spec_HashEnd.x k 0 [] spec_HashEnd.h 4 (sub spec_HashEnd.c [1, 1, 1, 1, 1, 1, 0, 1, 0, 0, 1, 0, 0, 1, 0, 1, 0, 0])) j (spec_HashEnd.S4 p) (kBlk 4 (kSeq (runK spec_HashEnd.x k 0 [] spec_HashEnd.h 3 (sub spec_HashEnd.c [1, 1, 1, 1, 1, 1, 0, 1, 0, 0, 1, 0, 0, 1, 1])) (kBlk 3 (kSeq (runK spec_HashEnd.x k 0 [] spec_HashEnd.h 2 (sub spec_HashEnd.c [1, 1, 1, 1, 1, 1, 0, 1, 0, 0, 1, 1])) (kSeq (fun s' K => normK [] (spec_HashEnd.h 2) s' fun s => loopK (normK [] (spec_HashEnd.h 2)) (runK spec_HashEnd.x k 0 [] spec_HashEnd.h 2 (sub spec_HashEnd.c [1, 1, 1, 1, 1, 1, 0, 1, 0, 0])) j2 s K) (kBlk 2 (kSeq (runK spec_HashEnd.x k 0 [] spec_HashEnd.h 0 (sub spec_HashEnd.c [1, 1, 1, 1, 1, 1, 1])) (fin tt spec_HashEnd.ps spec_HashEnd.rs spec_HashEnd.vs .str))))))))
noncomputable def spec_HashEnd.D6 (k : Nat) (j : Nat) (p : (Int × (List (Int)) × (List (Int)) × (List (Int)))) : Option (ByteArray) := loopK (normK [] (spec_HashEnd.h 6)) (runK spec_HashEnd.x k 0 [] spec_HashEnd.h 6 (sub spec_HashEnd.c [1, 1, 1, 1, 1, 1, 1, 1, 1, 0, 1, 0, 0])) j (spec_HashEnd.S6 p) (kBlk 6 (kSeq (runK spec_HashEnd.x k 0 [] spec_HashEnd.h 0 (sub spec_HashEnd.c [1, 1, 1, 1, 1, 1, 1, 1, 1, 1])) (fin tt spec_HashEnd.ps spec_HashEnd.rs spec_HashEnd.vs .str)))
noncomputable def spec_HashEnd.D2 (k : Nat) (j : Nat) (p : (Int × Int × ByteArray × ByteArray × Int × (List (Int)))) : Option (ByteArray) := loopK (normK [] (spec_HashEnd.h 2)) (runK spec_HashEnd.x k 0 [] spec_HashEnd.h 2 (sub spec_HashEnd.c [1, 1, 1, 1, 1, 1, 0, 1, 0, 0])) j (spec_HashEnd.S2 p) (kBlk 2 (kSeq (runK spec_HashEnd.x k 0 [] spec_HashEnd.h 0 (sub spec_HashEnd.c [1, 1, 1, 1, 1, 1, 1])) (fin tt spec_HashEnd.ps spec_HashEnd.rs spec_HashEnd.vs .str)))
noncomputable def spec_HashEnd.D0 (k : Nat) (j : Nat) (p : (ByteArray × ByteArray × Int × (List (Int)))) : Option (ByteArray) := loopK (normK [] (spec_HashEnd.h 0)) (runK spec_HashEnd.x k 0 [] spec_HashEnd.h 0 (sub spec_HashEnd.c [1, 1, 1, 1, 0, 0, 0])) j (spec_HashEnd.S0 p) (kBlk 0 (kSeq (runK spec_HashEnd.x k 0 [] spec_HashEnd.h 0 (sub spec_HashEnd.c [1, 1, 1, 1, 1])) (fin tt spec_HashEnd.ps spec_HashEnd.rs spec_HashEnd.vs .str)))
theorem spec_HashEnd.D4_eq (k : Nat) (j2 : Nat) : ∀ j, spec_HashEnd.D4 k j2 j = spec_HashEnd.l4 k (spec_HashEnd.D2 k j2) j := by
  intro j
  induction j with
  | zero => rfl
  | succ j ih =>
    show _ = spec_HashEnd.s4 k (spec_HashEnd.D2 k j2) (spec_HashEnd.l4 k (spec_HashEnd.D2 k j2) j)
    rw [← ih]
    funext p
    kernel_rfl
theorem spec_HashEnd.D6_eq (k : Nat) : ∀ j, spec_HashEnd.D6 k j = spec_HashEnd.l6 k j := by
  intro j
  induction j with
  | zero => rfl
  | succ j ih =>
    show _ = spec_HashEnd.s6 k (spec_HashEnd.l6 k j)
    rw [← ih]
    funext p
    kernel_rfl
theorem spec_HashEnd.D2_eq (k : Nat) : ∀ j, spec_HashEnd.D2 k j = spec_HashEnd.l2 k j := by
  intro j
  induction j with
  | zero => rfl
  | succ j ih =>
    show _ = spec_HashEnd.s2 k (spec_HashEnd.l2 k j) (spec_HashEnd.l4 k (spec_HashEnd.l2 k j) k) (spec_HashEnd.l6 k k)
    rw [← ih, ← spec_HashEnd.D4_eq k j k, ← spec_HashEnd.D6_eq k k]
    funext p
    kernel_rfl
theorem spec_HashEnd.D0_eq (k : Nat) : ∀ j, spec_HashEnd.D0 k j = spec_HashEnd.l0 k j := by
  intro j
  induction j with
  | zero => rfl
  | succ j ih =>
    show _ = spec_HashEnd.s0 k (spec_HashEnd.l0 k j) (spec_HashEnd.l2 k k)
    rw [← ih, ← spec_HashEnd.D2_eq k k]
    funext p
    kernel_rfl
def spec_HashEnd.f (k : Nat) (a0_0 : ByteArray) (a0_1 : ByteArray) (a0_2 : Int) : Option (ByteArray) :=
  (spec_HasherOk.f k a0_0 a0_1 a0_2).bind fun r1 => (bif (!r1) then some ByteArray.empty else (bif decide (((numsOf a0_1).length + [(128 : Int)].length) * 1 ≤ 140737488355328) then spec_HashEnd.l0 k k (a0_0, a0_1, a0_2, ((numsOf a0_1) ++ [(128 : Int)])) else none))
def spec_HashEnd.K : Ctr := ⟨spec_HashEnd.ps, spec_HashEnd.rs, false, (.two .str (.two .str (.int .i64))), .str, fun k x => spec_HashEnd.f k x.1 x.2.1 x.2.2⟩
theorem spec_HashEnd.eq (k : Nat) (x : (spec_HashEnd.K.I).den) : func spec_HashEnd.x spec_HashEnd.h spec_HashEnd.ps spec_HashEnd.rs spec_HashEnd.vs spec_HashEnd.K.I spec_HashEnd.K.O spec_HashEnd.c k x = spec_HashEnd.K.run k x := by
  show _ = spec_HashEnd.f k x.1 x.2.1 x.2.2
  unfold spec_HashEnd.f
  rw [← spec_HashEnd.D0_eq k k]
  kernel_rfl
theorem spec_HashEnd.ok : CtrOk Tryz.prog 70 spec_HashEnd.K :=
  CtrOk.of (fn := Tryz.f70) (cd := spec_HashEnd.c) (cx := spec_HashEnd.x) (hs := spec_HashEnd.h) (by kernel_rfl) (by kernel_rfl) (by kernel_rfl) (by kernel_rfl) tt_ok (envOk_cons spec_HasherOk.ok (envOk_cons spec_l04Words.ok (envOk_cons spec_l04K.ok (envOk_cons spec_l04Round.ok (envOk_cons spec_l04Bytes.ok (envOk_nil)))))) (by kernel_rfl) (by kernel_rfl) (by kernel_rfl) (by kernel_rfl) fun k x r h => (spec_HashEnd.eq k x).trans h
/-! spec.DigestOf -/
noncomputable def spec_DigestOf.c : Code := bodyOf Tryz.f56
def spec_DigestOf.h : Nat → Hint := look ⟨[], [], []⟩ []
def spec_DigestOf.ps : List PK := [.one]
def spec_DigestOf.rs : List RK := [.one true]
def spec_DigestOf.vs : List ResultVar := [.tmp 2]
def spec_DigestOf.x : Cx := ⟨tt, look none [(72, some spec_HasherNew.K), (71, some spec_HashMore.K), (70, some spec_HashEnd.K)]⟩
def spec_DigestOf.f (k : Nat) (a0 : ByteArray) : Option (ByteArray) :=
  (spec_HasherNew.f k).bind fun r1 => (spec_HashMore.f k r1.1 r1.2.1 r1.2.2 a0).bind fun r2 => (spec_HashEnd.f k r2.1 r2.2.1 r2.2.2).bind fun r3 => some r3
def spec_DigestOf.K : Ctr := ⟨spec_DigestOf.ps, spec_DigestOf.rs, false, .str, .str, fun k x => spec_DigestOf.f k x⟩
theorem spec_DigestOf.eq (k : Nat) (x : (spec_DigestOf.K.I).den) : func spec_DigestOf.x spec_DigestOf.h spec_DigestOf.ps spec_DigestOf.rs spec_DigestOf.vs spec_DigestOf.K.I spec_DigestOf.K.O spec_DigestOf.c k x = spec_DigestOf.K.run k x := by
  show _ = spec_DigestOf.f k x
  kernel_rfl
theorem spec_DigestOf.ok : CtrOk Tryz.prog 56 spec_DigestOf.K :=
  CtrOk.of (fn := Tryz.f56) (cd := spec_DigestOf.c) (cx := spec_DigestOf.x) (hs := spec_DigestOf.h) (by kernel_rfl) (by kernel_rfl) (by kernel_rfl) (by kernel_rfl) tt_ok (envOk_cons spec_HasherNew.ok (envOk_cons spec_HashMore.ok (envOk_cons spec_HashEnd.ok (envOk_nil)))) (by kernel_rfl) (by kernel_rfl) (by kernel_rfl) (by kernel_rfl) fun k x r h => (spec_DigestOf.eq k x).trans h
/-! spec.ReadNumber -/
noncomputable def spec_ReadNumber.c : Code := bodyOf Tryz.f69
def spec_ReadNumber.h : Nat → Hint := look ⟨[], [], []⟩ []
def spec_ReadNumber.ps : List PK := [.one]
def spec_ReadNumber.rs : List RK := [.one true, .one true]
def spec_ReadNumber.vs : List ResultVar := [.tmp 2, .tmp 3]
def spec_ReadNumber.x : Cx := ⟨tt, look none []⟩
def spec_ReadNumber.f (_k : Nat) (a0 : ByteArray) : Option (Int × Bool) :=
  (bif ((a0.size : Int) != (4 : Int)) then some ((0 : Int), false) else (a0[0]?).bind fun c1 => (a0[1]?).bind fun c2 => (a0[2]?).bind fun c3 => (a0[3]?).bind fun c4 => some ((IntKind.i64.wrap ((IntKind.i64.wrap ((IntKind.i64.wrap ((IntKind.i64.wrap ((IntKind.i64.wrap (c1.toNat : Int)) * (16777216 : Int))) + (IntKind.i64.wrap ((IntKind.i64.wrap (c2.toNat : Int)) * (65536 : Int))))) + (IntKind.i64.wrap ((IntKind.i64.wrap (c3.toNat : Int)) * (256 : Int))))) + (IntKind.i64.wrap (c4.toNat : Int)))), true))
def spec_ReadNumber.K : Ctr := ⟨spec_ReadNumber.ps, spec_ReadNumber.rs, false, .str, (.two (.int .i64) .bool), fun k x => spec_ReadNumber.f k x⟩
theorem spec_ReadNumber.eq (k : Nat) (x : (spec_ReadNumber.K.I).den) : func spec_ReadNumber.x spec_ReadNumber.h spec_ReadNumber.ps spec_ReadNumber.rs spec_ReadNumber.vs spec_ReadNumber.K.I spec_ReadNumber.K.O spec_ReadNumber.c k x = spec_ReadNumber.K.run k x := by
  show _ = spec_ReadNumber.f k x
  kernel_rfl
theorem spec_ReadNumber.ok : CtrOk Tryz.prog 69 spec_ReadNumber.K :=
  CtrOk.of (fn := Tryz.f69) (cd := spec_ReadNumber.c) (cx := spec_ReadNumber.x) (hs := spec_ReadNumber.h) (by kernel_rfl) (by kernel_rfl) (by kernel_rfl) (by kernel_rfl) tt_ok (envOk_nil) (by kernel_rfl) (by kernel_rfl) (by kernel_rfl) (by kernel_rfl) fun k x r h => (spec_ReadNumber.eq k x).trans h
end Go.Proofs.YtpinehfjimphmaaGreat.DI
