/- FnExactGreeterNew: functions as plain Lean, in the machine of values. -/
import Derived.Test.YtpinehfjimphmaaVFnExactGreeterNew3
namespace Go.Proofs.Ytpinehfjimphmaa.DI
open Go
set_option linter.unusedVariables false
/-! impl.round -/
noncomputable def impl_round.c : Code := bodyOf Try.f102
def impl_round.h : Nat → Hint := look ⟨[], [], []⟩ [(0, ⟨[5, 6, 7, 8, 9, 10, 11, 12, 13, 14, 15, 52], [80], [(.t 6, 2368, 3, (.int .i64)), (.t 7, 2369, 3, (.int .i64))]⟩), (2, ⟨[7, 128, 129, 130], [], [(.t 7, 2368, 3, (.int .i64)), (.t 128, 2369, 3, (.int .i64))]⟩)]
def impl_round.ps : List PK := [.one, .one]
def impl_round.rs : List RK := [.one true]
def impl_round.vs : List ResultVar := [.tmp 4]
def impl_round.x : Cx := ⟨tt, look none [(110, some impl_constants.K), (111, some impl_expanded.K), (112, some impl_wordsOf.K), (113, some impl_turnRight.K), (103, some impl_wordsText.K)]⟩
def impl_round.s2 (k : Nat) (rec2 : (Int × Int × (List (Int)) × (List (Int))) → Option (ByteArray)) (p : (Int × Int × (List (Int)) × (List (Int)))) : Option (ByteArray) :=
  (bif (decide (p.2.1 < p.1)) then (bif ((decide ((0 : Int) ≤ p.2.1)) && (decide (p.2.1 < (p.2.2.2.length : Int)))) then (p.2.2.2[p.2.1.toNat]?).bind fun x20 => (bif ((decide ((0 : Int) ≤ p.2.1)) && (decide (p.2.1 < (p.2.2.1.length : Int)))) then (p.2.2.1[p.2.1.toNat]?).bind fun x21 => (bif ((decide ((0 : Int) ≤ p.2.1)) && (decide (p.2.1 < (p.2.2.1.length : Int)))) then (p.2.2.1[p.2.1.toNat]?).bind fun x22 => rec2 (p.1, (IntKind.i64.wrap (p.2.1 + (1 : Int))), (p.2.2.1.set p.2.1.toNat (IntKind.i64.wrap (((BitVec.ofInt IntKind.i64.bits (IntKind.i64.wrap (x21 + x20))) &&& (BitVec.ofInt IntKind.i64.bits (4294967295 : Int))).toNat : Int))), p.2.2.2) else none) else none) else none) else (impl_wordsText.f k p.2.2.1).bind fun r23 => some r23)
def impl_round.l2 (k : Nat) : Nat → (Int × Int × (List (Int)) × (List (Int))) → Option (ByteArray)
  | 0 => fun _ => none
  | j + 1 => impl_round.s2 k (impl_round.l2 k j)
def impl_round.s0 (k : Nat) (rec0 : (Int × Int × Int × Int × Int × Int × Int × Int × Int × (List (Int)) × (List (Int)) × (List (Int))) → Option (ByteArray)) (i2 : (Int × Int × (List (Int)) × (List (Int))) → Option (ByteArray)) (p : (Int × Int × Int × Int × Int × Int × Int × Int × Int × (List (Int)) × (List (Int)) × (List (Int)))) : Option (ByteArray) :=
  (bif (decide (p.2.2.2.2.2.2.2.2.1 < (64 : Int))) then (impl_turnRight.f k p.2.2.2.2.1 (6 : Int)).bind fun r12 => (impl_turnRight.f k p.2.2.2.2.1 (11 : Int)).bind fun r13 => (impl_turnRight.f k p.2.2.2.2.1 (25 : Int)).bind fun r14 => (bif ((decide ((0 : Int) ≤ p.2.2.2.2.2.2.2.2.1)) && ((decide (p.2.2.2.2.2.2.2.2.1 < (p.2.2.2.2.2.2.2.2.2.1.length : Int))) && (decide (p.2.2.2.2.2.2.2.2.1 < (64 : Int))))) then (p.2.2.2.2.2.2.2.2.2.1[p.2.2.2.2.2.2.2.2.1.toNat]?).bind fun x15 => (bif ((decide ((0 : Int) ≤ p.2.2.2.2.2.2.2.2.1)) && (decide (p.2.2.2.2.2.2.2.2.1 < (p.2.2.2.2.2.2.2.2.2.2.1.length : Int)))) then (p.2.2.2.2.2.2.2.2.2.2.1[p.2.2.2.2.2.2.2.2.1.toNat]?).bind fun x16 => (impl_turnRight.f k p.1 (2 : Int)).bind fun r17 => (impl_turnRight.f k p.1 (13 : Int)).bind fun r18 => (impl_turnRight.f k p.1 (22 : Int)).bind fun r19 => rec0 ((IntKind.i64.wrap (((BitVec.ofInt IntKind.i64.bits (IntKind.i64.wrap ((IntKind.i64.wrap ((IntKind.i64.wrap ((IntKind.i64.wrap ((IntKind.i64.wrap (p.2.2.2.2.2.2.2.1 + (IntKind.i64.wrap (((BitVec.ofInt IntKind.i64.bits (IntKind.i64.wrap (((BitVec.ofInt IntKind.i64.bits r12) ^^^ (BitVec.ofInt IntKind.i64.bits r13)).toNat : Int))) ^^^ (BitVec.ofInt IntKind.i64.bits r14)).toNat : Int)))) + (IntKind.i64.wrap (((BitVec.ofInt IntKind.i64.bits (IntKind.i64.wrap (((BitVec.ofInt IntKind.i64.bits p.2.2.2.2.1) &&& (BitVec.ofInt IntKind.i64.bits p.2.2.2.2.2.1)).toNat : Int))) ^^^ (BitVec.ofInt IntKind.i64.bits (IntKind.i64.wrap (((BitVec.ofInt IntKind.i64.bits (IntKind.i64.wrap (((BitVec.ofInt IntKind.i64.bits (4294967295 : Int)) ^^^ (BitVec.ofInt IntKind.i64.bits p.2.2.2.2.1)).toNat : Int))) &&& (BitVec.ofInt IntKind.i64.bits p.2.2.2.2.2.2.1)).toNat : Int)))).toNat : Int)))) + x15)) + x16)) + (IntKind.i64.wrap ((IntKind.i64.wrap (((BitVec.ofInt IntKind.i64.bits (IntKind.i64.wrap (((BitVec.ofInt IntKind.i64.bits r17) ^^^ (BitVec.ofInt IntKind.i64.bits r18)).toNat : Int))) ^^^ (BitVec.ofInt IntKind.i64.bits r19)).toNat : Int)) + (IntKind.i64.wrap (((BitVec.ofInt IntKind.i64.bits (IntKind.i64.wrap (((BitVec.ofInt IntKind.i64.bits (IntKind.i64.wrap (((BitVec.ofInt IntKind.i64.bits p.1) &&& (BitVec.ofInt IntKind.i64.bits p.2.1)).toNat : Int))) ^^^ (BitVec.ofInt IntKind.i64.bits (IntKind.i64.wrap (((BitVec.ofInt IntKind.i64.bits p.1) &&& (BitVec.ofInt IntKind.i64.bits p.2.2.1)).toNat : Int)))).toNat : Int))) ^^^ (BitVec.ofInt IntKind.i64.bits (IntKind.i64.wrap (((BitVec.ofInt IntKind.i64.bits p.2.1) &&& (BitVec.ofInt IntKind.i64.bits p.2.2.1)).toNat : Int)))).toNat : Int))))))) &&& (BitVec.ofInt IntKind.i64.bits (4294967295 : Int))).toNat : Int)), p.1, p.2.1, p.2.2.1, (IntKind.i64.wrap (((BitVec.ofInt IntKind.i64.bits (IntKind.i64.wrap (p.2.2.2.1 + (IntKind.i64.wrap ((IntKind.i64.wrap ((IntKind.i64.wrap ((IntKind.i64.wrap (p.2.2.2.2.2.2.2.1 + (IntKind.i64.wrap (((BitVec.ofInt IntKind.i64.bits (IntKind.i64.wrap (((BitVec.ofInt IntKind.i64.bits r12) ^^^ (BitVec.ofInt IntKind.i64.bits r13)).toNat : Int))) ^^^ (BitVec.ofInt IntKind.i64.bits r14)).toNat : Int)))) + (IntKind.i64.wrap (((BitVec.ofInt IntKind.i64.bits (IntKind.i64.wrap (((BitVec.ofInt IntKind.i64.bits p.2.2.2.2.1) &&& (BitVec.ofInt IntKind.i64.bits p.2.2.2.2.2.1)).toNat : Int))) ^^^ (BitVec.ofInt IntKind.i64.bits (IntKind.i64.wrap (((BitVec.ofInt IntKind.i64.bits (IntKind.i64.wrap (((BitVec.ofInt IntKind.i64.bits (4294967295 : Int)) ^^^ (BitVec.ofInt IntKind.i64.bits p.2.2.2.2.1)).toNat : Int))) &&& (BitVec.ofInt IntKind.i64.bits p.2.2.2.2.2.2.1)).toNat : Int)))).toNat : Int)))) + x15)) + x16))))) &&& (BitVec.ofInt IntKind.i64.bits (4294967295 : Int))).toNat : Int)), p.2.2.2.2.1, p.2.2.2.2.2.1, p.2.2.2.2.2.2.1, (IntKind.i64.wrap (p.2.2.2.2.2.2.2.2.1 + (1 : Int))), p.2.2.2.2.2.2.2.2.2.1, p.2.2.2.2.2.2.2.2.2.2.1, p.2.2.2.2.2.2.2.2.2.2.2) else none) else none) else i2 (([p.1, p.2.1, p.2.2.1, p.2.2.2.1, p.2.2.2.2.1, p.2.2.2.2.2.1, p.2.2.2.2.2.2.1, p.2.2.2.2.2.2.2.1].length : Int), (0 : Int), p.2.2.2.2.2.2.2.2.2.2.2, [p.1, p.2.1, p.2.2.1, p.2.2.2.1, p.2.2.2.2.1, p.2.2.2.2.2.1, p.2.2.2.2.2.2.1, p.2.2.2.2.2.2.2.1]))
def impl_round.l0 (k : Nat) : Nat → (Int × Int × Int × Int × Int × Int × Int × Int × Int × (List (Int)) × (List (Int)) × (List (Int))) → Option (ByteArray)
  | 0 => fun _ => none
  | j + 1 => impl_round.s0 k (impl_round.l0 k j) (impl_round.l2 k k)
def impl_round.S2 (p : (Int × Int × (List (Int)) × (List (Int)))) : DS := ⟨tl [(7, .at (.whole 2368)), (128, .at (.whole 2369)), (129, .at (.int .i64 p.1)), (130, .at (.int .i64 p.2.1))], lookO [(2368, .row 3 (.int .i64) true p.2.2.1), (2369, .row 3 (.int .i64) true p.2.2.2)]⟩
def impl_round.S0 (p : (Int × Int × Int × Int × Int × Int × Int × Int × Int × (List (Int)) × (List (Int)) × (List (Int)))) : DS := ⟨tl [(5, .at (.eptr 80 0 0)), (6, .at (.whole 2368)), (7, .at (.whole 2369)), (8, .at (.int .i64 p.1)), (9, .at (.int .i64 p.2.1)), (10, .at (.int .i64 p.2.2.1)), (11, .at (.int .i64 p.2.2.2.1)), (12, .at (.int .i64 p.2.2.2.2.1)), (13, .at (.int .i64 p.2.2.2.2.2.1)), (14, .at (.int .i64 p.2.2.2.2.2.2.1)), (15, .at (.int .i64 p.2.2.2.2.2.2.2.1)), (52, .at (.int .i64 p.2.2.2.2.2.2.2.2.1))], lookO [(80, .row 124 (.int .i64) true p.2.2.2.2.2.2.2.2.2.1), (2368, .row 3 (.int .i64) true p.2.2.2.2.2.2.2.2.2.2.1), (2369, .row 3 (.int .i64) true p.2.2.2.2.2.2.2.2.2.2.2)]⟩
noncomputable def impl_round.D2 (k : Nat) (j : Nat) (p : (Int × Int × (List (Int)) × (List (Int)))) : Option (ByteArray) := loopK (norm [] (impl_round.h 2)) (runK impl_round.x k 0 [] impl_round.h 2 (sub impl_round.c [1, 1, 1, 1, 1, 1, 0, 1, 0, 0])) j (impl_round.S2 p) (kBlk 2 (kSeq (runK impl_round.x k 0 [] impl_round.h 0 (sub impl_round.c [1, 1, 1, 1, 1, 1, 1])) (fin tt impl_round.ps impl_round.rs impl_round.vs .str)))
noncomputable def impl_round.D0 (k : Nat) (j : Nat) (p : (Int × Int × Int × Int × Int × Int × Int × Int × Int × (List (Int)) × (List (Int)) × (List (Int)))) : Option (ByteArray) := loopK (norm [] (impl_round.h 0)) (runK impl_round.x k 0 [] impl_round.h 0 (sub impl_round.c [1, 1, 1, 1, 1, 0, 1, 0, 0])) j (impl_round.S0 p) (kBlk 0 (kSeq (runK impl_round.x k 0 [] impl_round.h 0 (sub impl_round.c [1, 1, 1, 1, 1, 1])) (fin tt impl_round.ps impl_round.rs impl_round.vs .str)))
theorem impl_round.D2_eq (k : Nat) : ∀ j, impl_round.D2 k j = impl_round.l2 k j := by
  intro j
  induction j with
  | zero => rfl
  | succ j ih =>
    show _ = impl_round.s2 k (impl_round.l2 k j)
    rw [← ih]
    funext p
    kernel_rfl
theorem impl_round.D0_eq (k : Nat) : ∀ j, impl_round.D0 k j = impl_round.l0 k j := by
  intro j
  induction j with
  | zero => rfl
  | succ j ih =>
    show _ = impl_round.s0 k (impl_round.l0 k j) (impl_round.l2 k k)
    rw [← ih, ← impl_round.D2_eq k k]
    funext p
    kernel_rfl
def impl_round.f (k : Nat) (a0 : ByteArray) (a1 : ByteArray) : Option (ByteArray) :=
  (impl_constants.f k).bind fun r1 => (impl_expanded.f k a1).bind fun r2 => (impl_wordsOf.f k a0).bind fun r3 => (bif (true && (decide ((0 : Int) < (r3.length : Int)))) then (r3[0]?).bind fun x4 => (bif (true && (decide ((1 : Int) < (r3.length : Int)))) then (r3[1]?).bind fun x5 => (bif (true && (decide ((2 : Int) < (r3.length : Int)))) then (r3[2]?).bind fun x6 => (bif (true && (decide ((3 : Int) < (r3.length : Int)))) then (r3[3]?).bind fun x7 => (bif (true && (decide ((4 : Int) < (r3.length : Int)))) then (r3[4]?).bind fun x8 => (bif (true && (decide ((5 : Int) < (r3.length : Int)))) then (r3[5]?).bind fun x9 => (bif (true && (decide ((6 : Int) < (r3.length : Int)))) then (r3[6]?).bind fun x10 => (bif (true && (decide ((7 : Int) < (r3.length : Int)))) then (r3[7]?).bind fun x11 => impl_round.l0 k k (x4, x5, x6, x7, x8, x9, x10, x11, (0 : Int), [r1.1, r1.2.1, r1.2.2.1, r1.2.2.2.1, r1.2.2.2.2.1, r1.2.2.2.2.2.1, r1.2.2.2.2.2.2.1, r1.2.2.2.2.2.2.2.1, r1.2.2.2.2.2.2.2.2.1, r1.2.2.2.2.2.2.2.2.2.1, r1.2.2.2.2.2.2.2.2.2.2.1, r1.2.2.2.2.2.2.2.2.2.2.2.1, r1.2.2.2.2.2.2.2.2.2.2.2.2.1, r1.2.2.2.2.2.2.2.2.2.2.2.2.2.1, r1.2.2.2.2.2.2.2.2.2.2.2.2.2.2.1, r1.2.2.2.2.2.2.2.2.2.2.2.2.2.2.2.1, r1.2.2.2.2.2.2.2.2.2.2.2.2.2.2.2.2.1, r1.2.2.2.2.2.2.2.2.2.2.2.2.2.2.2.2.2.1, r1.2.2.2.2.2.2.2.2.2.2.2.2.2.2.2.2.2.2.1, r1.2.2.2.2.2.2.2.2.2.2.2.2.2.2.2.2.2.2.2.1, r1.2.2.2.2.2.2.2.2.2.2.2.2.2.2.2.2.2.2.2.2.1, r1.2.2.2.2.2.2.2.2.2.2.2.2.2.2.2.2.2.2.2.2.2.1, r1.2.2.2.2.2.2.2.2.2.2.2.2.2.2.2.2.2.2.2.2.2.2.1, r1.2.2.2.2.2.2.2.2.2.2.2.2.2.2.2.2.2.2.2.2.2.2.2.1, r1.2.2.2.2.2.2.2.2.2.2.2.2.2.2.2.2.2.2.2.2.2.2.2.2.1, r1.2.2.2.2.2.2.2.2.2.2.2.2.2.2.2.2.2.2.2.2.2.2.2.2.2.1, r1.2.2.2.2.2.2.2.2.2.2.2.2.2.2.2.2.2.2.2.2.2.2.2.2.2.2.1, r1.2.2.2.2.2.2.2.2.2.2.2.2.2.2.2.2.2.2.2.2.2.2.2.2.2.2.2.1, r1.2.2.2.2.2.2.2.2.2.2.2.2.2.2.2.2.2.2.2.2.2.2.2.2.2.2.2.2.1, r1.2.2.2.2.2.2.2.2.2.2.2.2.2.2.2.2.2.2.2.2.2.2.2.2.2.2.2.2.2.1, r1.2.2.2.2.2.2.2.2.2.2.2.2.2.2.2.2.2.2.2.2.2.2.2.2.2.2.2.2.2.2.1, r1.2.2.2.2.2.2.2.2.2.2.2.2.2.2.2.2.2.2.2.2.2.2.2.2.2.2.2.2.2.2.2.1, r1.2.2.2.2.2.2.2.2.2.2.2.2.2.2.2.2.2.2.2.2.2.2.2.2.2.2.2.2.2.2.2.2.1, r1.2.2.2.2.2.2.2.2.2.2.2.2.2.2.2.2.2.2.2.2.2.2.2.2.2.2.2.2.2.2.2.2.2.1, r1.2.2.2.2.2.2.2.2.2.2.2.2.2.2.2.2.2.2.2.2.2.2.2.2.2.2.2.2.2.2.2.2.2.2.1, r1.2.2.2.2.2.2.2.2.2.2.2.2.2.2.2.2.2.2.2.2.2.2.2.2.2.2.2.2.2.2.2.2.2.2.2.1, r1.2.2.2.2.2.2.2.2.2.2.2.2.2.2.2.2.2.2.2.2.2.2.2.2.2.2.2.2.2.2.2.2.2.2.2.2.1, r1.2.2.2.2.2.2.2.2.2.2.2.2.2.2.2.2.2.2.2.2.2.2.2.2.2.2.2.2.2.2.2.2.2.2.2.2.2.1, r1.2.2.2.2.2.2.2.2.2.2.2.2.2.2.2.2.2.2.2.2.2.2.2.2.2.2.2.2.2.2.2.2.2.2.2.2.2.2.1, r1.2.2.2.2.2.2.2.2.2.2.2.2.2.2.2.2.2.2.2.2.2.2.2.2.2.2.2.2.2.2.2.2.2.2.2.2.2.2.2.1, r1.2.2.2.2.2.2.2.2.2.2.2.2.2.2.2.2.2.2.2.2.2.2.2.2.2.2.2.2.2.2.2.2.2.2.2.2.2.2.2.2.1, r1.2.2.2.2.2.2.2.2.2.2.2.2.2.2.2.2.2.2.2.2.2.2.2.2.2.2.2.2.2.2.2.2.2.2.2.2.2.2.2.2.2.1, r1.2.2.2.2.2.2.2.2.2.2.2.2.2.2.2.2.2.2.2.2.2.2.2.2.2.2.2.2.2.2.2.2.2.2.2.2.2.2.2.2.2.2.1, r1.2.2.2.2.2.2.2.2.2.2.2.2.2.2.2.2.2.2.2.2.2.2.2.2.2.2.2.2.2.2.2.2.2.2.2.2.2.2.2.2.2.2.2.1, r1.2.2.2.2.2.2.2.2.2.2.2.2.2.2.2.2.2.2.2.2.2.2.2.2.2.2.2.2.2.2.2.2.2.2.2.2.2.2.2.2.2.2.2.2.1, r1.2.2.2.2.2.2.2.2.2.2.2.2.2.2.2.2.2.2.2.2.2.2.2.2.2.2.2.2.2.2.2.2.2.2.2.2.2.2.2.2.2.2.2.2.2.1, r1.2.2.2.2.2.2.2.2.2.2.2.2.2.2.2.2.2.2.2.2.2.2.2.2.2.2.2.2.2.2.2.2.2.2.2.2.2.2.2.2.2.2.2.2.2.2.1, r1.2.2.2.2.2.2.2.2.2.2.2.2.2.2.2.2.2.2.2.2.2.2.2.2.2.2.2.2.2.2.2.2.2.2.2.2.2.2.2.2.2.2.2.2.2.2.2.1, r1.2.2.2.2.2.2.2.2.2.2.2.2.2.2.2.2.2.2.2.2.2.2.2.2.2.2.2.2.2.2.2.2.2.2.2.2.2.2.2.2.2.2.2.2.2.2.2.2.1, r1.2.2.2.2.2.2.2.2.2.2.2.2.2.2.2.2.2.2.2.2.2.2.2.2.2.2.2.2.2.2.2.2.2.2.2.2.2.2.2.2.2.2.2.2.2.2.2.2.2.1, r1.2.2.2.2.2.2.2.2.2.2.2.2.2.2.2.2.2.2.2.2.2.2.2.2.2.2.2.2.2.2.2.2.2.2.2.2.2.2.2.2.2.2.2.2.2.2.2.2.2.2.1, r1.2.2.2.2.2.2.2.2.2.2.2.2.2.2.2.2.2.2.2.2.2.2.2.2.2.2.2.2.2.2.2.2.2.2.2.2.2.2.2.2.2.2.2.2.2.2.2.2.2.2.2.1, r1.2.2.2.2.2.2.2.2.2.2.2.2.2.2.2.2.2.2.2.2.2.2.2.2.2.2.2.2.2.2.2.2.2.2.2.2.2.2.2.2.2.2.2.2.2.2.2.2.2.2.2.2.1, r1.2.2.2.2.2.2.2.2.2.2.2.2.2.2.2.2.2.2.2.2.2.2.2.2.2.2.2.2.2.2.2.2.2.2.2.2.2.2.2.2.2.2.2.2.2.2.2.2.2.2.2.2.2.1, r1.2.2.2.2.2.2.2.2.2.2.2.2.2.2.2.2.2.2.2.2.2.2.2.2.2.2.2.2.2.2.2.2.2.2.2.2.2.2.2.2.2.2.2.2.2.2.2.2.2.2.2.2.2.2.1, r1.2.2.2.2.2.2.2.2.2.2.2.2.2.2.2.2.2.2.2.2.2.2.2.2.2.2.2.2.2.2.2.2.2.2.2.2.2.2.2.2.2.2.2.2.2.2.2.2.2.2.2.2.2.2.2.1, r1.2.2.2.2.2.2.2.2.2.2.2.2.2.2.2.2.2.2.2.2.2.2.2.2.2.2.2.2.2.2.2.2.2.2.2.2.2.2.2.2.2.2.2.2.2.2.2.2.2.2.2.2.2.2.2.2.1, r1.2.2.2.2.2.2.2.2.2.2.2.2.2.2.2.2.2.2.2.2.2.2.2.2.2.2.2.2.2.2.2.2.2.2.2.2.2.2.2.2.2.2.2.2.2.2.2.2.2.2.2.2.2.2.2.2.2.1, r1.2.2.2.2.2.2.2.2.2.2.2.2.2.2.2.2.2.2.2.2.2.2.2.2.2.2.2.2.2.2.2.2.2.2.2.2.2.2.2.2.2.2.2.2.2.2.2.2.2.2.2.2.2.2.2.2.2.2.1, r1.2.2.2.2.2.2.2.2.2.2.2.2.2.2.2.2.2.2.2.2.2.2.2.2.2.2.2.2.2.2.2.2.2.2.2.2.2.2.2.2.2.2.2.2.2.2.2.2.2.2.2.2.2.2.2.2.2.2.2.1, r1.2.2.2.2.2.2.2.2.2.2.2.2.2.2.2.2.2.2.2.2.2.2.2.2.2.2.2.2.2.2.2.2.2.2.2.2.2.2.2.2.2.2.2.2.2.2.2.2.2.2.2.2.2.2.2.2.2.2.2.2.1, r1.2.2.2.2.2.2.2.2.2.2.2.2.2.2.2.2.2.2.2.2.2.2.2.2.2.2.2.2.2.2.2.2.2.2.2.2.2.2.2.2.2.2.2.2.2.2.2.2.2.2.2.2.2.2.2.2.2.2.2.2.2.1, r1.2.2.2.2.2.2.2.2.2.2.2.2.2.2.2.2.2.2.2.2.2.2.2.2.2.2.2.2.2.2.2.2.2.2.2.2.2.2.2.2.2.2.2.2.2.2.2.2.2.2.2.2.2.2.2.2.2.2.2.2.2.2.1, r1.2.2.2.2.2.2.2.2.2.2.2.2.2.2.2.2.2.2.2.2.2.2.2.2.2.2.2.2.2.2.2.2.2.2.2.2.2.2.2.2.2.2.2.2.2.2.2.2.2.2.2.2.2.2.2.2.2.2.2.2.2.2.2], r2, r3) else none) else none) else none) else none) else none) else none) else none) else none)
def impl_round.K : Ctr := ⟨impl_round.ps, impl_round.rs, false, (.two .str .str), .str, fun k x => impl_round.f k x.1 x.2⟩
theorem impl_round.eq (k : Nat) (x : (impl_round.K.I).den) : func impl_round.x impl_round.h impl_round.ps impl_round.rs impl_round.vs impl_round.K.I impl_round.K.O impl_round.c k x = impl_round.K.run k x := by
  show _ = impl_round.f k x.1 x.2
  unfold impl_round.f
  rw [← impl_round.D0_eq k k]
  kernel_rfl
theorem impl_round.ok : CtrOk Try.prog 102 impl_round.K :=
  CtrOk.of (fn := Try.f102) (cd := impl_round.c) (cx := impl_round.x) (hs := impl_round.h) (by kernel_rfl) (by kernel_rfl) (by kernel_rfl) (by kernel_rfl) tt_ok (envOk_cons impl_constants.ok (envOk_cons impl_expanded.ok (envOk_cons impl_wordsOf.ok (envOk_cons impl_turnRight.ok (envOk_cons impl_wordsText.ok (envOk_nil)))))) (by kernel_rfl) (by kernel_rfl) (by kernel_rfl) (by kernel_rfl) fun k x r h => (impl_round.eq k x).trans h
/-! impl.rounds -/
noncomputable def impl_rounds.c : Code := bodyOf Try.f91
def impl_rounds.h : Nat → Hint := look ⟨[], [], []⟩ [(0, ⟨[0, 1], [], []⟩)]
def impl_rounds.ps : List PK := [.one, .one]
def impl_rounds.rs : List RK := [.one true, .one true]
def impl_rounds.vs : List ResultVar := [.tmp 4, .tmp 5]
def impl_rounds.x : Cx := ⟨tt, look none [(102, some impl_round.K)]⟩
def impl_rounds.s0 (k : Nat) (rec0 : (ByteArray × ByteArray) → Option (ByteArray × ByteArray)) (p : (ByteArray × ByteArray)) : Option (ByteArray × ByteArray) :=
  (bif (decide ((p.2.size : Int) ≥ (64 : Int))) then (bif (true && (decide ((64 : Int) ≤ (p.2.size : Int)))) then (impl_round.f k p.1 (p.2.extract 0 64)).bind fun r1 => (bif (true && (decide ((64 : Int) ≤ (p.2.size : Int)))) then rec0 (r1, (p.2.extract 64 p.2.size)) else none) else none) else some (p.1, p.2))
def impl_rounds.l0 (k : Nat) : Nat → (ByteArray × ByteArray) → Option (ByteArray × ByteArray)
  | 0 => fun _ => none
  | j + 1 => impl_rounds.s0 k (impl_rounds.l0 k j)
def impl_rounds.S0 (p : (ByteArray × ByteArray)) : DS := ⟨tl [(0, .at (.str p.1)), (1, .at (.str p.2))], lookO []⟩
noncomputable def impl_rounds.D0 (k : Nat) (j : Nat) (p : (ByteArray × ByteArray)) : Option (ByteArray × ByteArray) := loopK (norm [] (impl_rounds.h 0)) (runK impl_rounds.x k 0 [] impl_rounds.h 0 (sub impl_rounds.c [1, 0, 0, 0])) j (impl_rounds.S0 p) (kBlk 0 (kSeq (runK impl_rounds.x k 0 [] impl_rounds.h 0 (sub impl_rounds.c [1, 1])) (fin tt impl_rounds.ps impl_rounds.rs impl_rounds.vs (.two .str .str))))
theorem impl_rounds.D0_eq (k : Nat) : ∀ j, impl_rounds.D0 k j = impl_rounds.l0 k j := by
  intro j
  induction j with
  | zero => rfl
  | succ j ih =>
    show _ = impl_rounds.s0 k (impl_rounds.l0 k j)
    rw [← ih]
    funext p
    kernel_rfl
def impl_rounds.f (k : Nat) (a0 : ByteArray) (a1 : ByteArray) : Option (ByteArray × ByteArray) :=
  impl_rounds.l0 k k (a0, a1)
def impl_rounds.K : Ctr := ⟨impl_rounds.ps, impl_rounds.rs, false, (.two .str .str), (.two .str .str), fun k x => impl_rounds.f k x.1 x.2⟩
theorem impl_rounds.eq (k : Nat) (x : (impl_rounds.K.I).den) : func impl_rounds.x impl_rounds.h impl_rounds.ps impl_rounds.rs impl_rounds.vs impl_rounds.K.I impl_rounds.K.O impl_rounds.c k x = impl_rounds.K.run k x := by
  show _ = impl_rounds.f k x.1 x.2
  unfold impl_rounds.f
  rw [← impl_rounds.D0_eq k k]
  kernel_rfl
theorem impl_rounds.ok : CtrOk Try.prog 91 impl_rounds.K :=
  CtrOk.of (fn := Try.f91) (cd := impl_rounds.c) (cx := impl_rounds.x) (hs := impl_rounds.h) (by kernel_rfl) (by kernel_rfl) (by kernel_rfl) (by kernel_rfl) tt_ok (envOk_cons impl_round.ok (envOk_nil)) (by kernel_rfl) (by kernel_rfl) (by kernel_rfl) (by kernel_rfl) fun k x r h => (impl_rounds.eq k x).trans h
/-! impl.DigestOf -/
noncomputable def impl_DigestOf.c : Code := bodyOf Try.f80
def impl_DigestOf.h : Nat → Hint := look ⟨[], [], []⟩ []
def impl_DigestOf.ps : List PK := [.one]
def impl_DigestOf.rs : List RK := [.one true]
def impl_DigestOf.vs : List ResultVar := [.tmp 2]
def impl_DigestOf.x : Cx := ⟨tt, look none [(92, some impl_firstState.K), (93, some impl_padding.K), (91, some impl_rounds.K)]⟩
def impl_DigestOf.f (k : Nat) (a0 : ByteArray) : Option (ByteArray) :=
  (impl_firstState.f k).bind fun r1 => (impl_padding.f k (a0.size : Int)).bind fun r2 => (bif decide (a0.size + r2.size ≤ 140737488351232) then (impl_rounds.f k r1 (a0 ++ r2)).bind fun r3 => some r3.1 else none)
def impl_DigestOf.K : Ctr := ⟨impl_DigestOf.ps, impl_DigestOf.rs, false, .str, .str, fun k x => impl_DigestOf.f k x⟩
theorem impl_DigestOf.eq (k : Nat) (x : (impl_DigestOf.K.I).den) : func impl_DigestOf.x impl_DigestOf.h impl_DigestOf.ps impl_DigestOf.rs impl_DigestOf.vs impl_DigestOf.K.I impl_DigestOf.K.O impl_DigestOf.c k x = impl_DigestOf.K.run k x := by
  show _ = impl_DigestOf.f k x
  kernel_rfl
theorem impl_DigestOf.ok : CtrOk Try.prog 80 impl_DigestOf.K :=
  CtrOk.of (fn := Try.f80) (cd := impl_DigestOf.c) (cx := impl_DigestOf.x) (hs := impl_DigestOf.h) (by kernel_rfl) (by kernel_rfl) (by kernel_rfl) (by kernel_rfl) tt_ok (envOk_cons impl_firstState.ok (envOk_cons impl_padding.ok (envOk_cons impl_rounds.ok (envOk_nil)))) (by kernel_rfl) (by kernel_rfl) (by kernel_rfl) (by kernel_rfl) fun k x r h => (impl_DigestOf.eq k x).trans h
/-! impl.digestNumber -/
noncomputable def impl_digestNumber.c : Code := bodyOf Try.f62
def impl_digestNumber.h : Nat → Hint := look ⟨[], [], []⟩ []
def impl_digestNumber.ps : List PK := [.one]
def impl_digestNumber.rs : List RK := [.one true]
def impl_digestNumber.vs : List ResultVar := [.tmp 2]
def impl_digestNumber.x : Cx := ⟨tt, look none [(80, some impl_DigestOf.K), (68, some impl_ReadNumber.K)]⟩
def impl_digestNumber.f (k : Nat) (a0 : ByteArray) : Option (Int) :=
  (impl_DigestOf.f k a0).bind fun r1 => (bif (true && (decide ((4 : Int) ≤ (r1.size : Int)))) then (impl_ReadNumber.f k (r1.extract 0 4)).bind fun r2 => some r2.1 else none)
def impl_digestNumber.K : Ctr := ⟨impl_digestNumber.ps, impl_digestNumber.rs, false, .str, (.int .i64), fun k x => impl_digestNumber.f k x⟩
theorem impl_digestNumber.eq (k : Nat) (x : (impl_digestNumber.K.I).den) : func impl_digestNumber.x impl_digestNumber.h impl_digestNumber.ps impl_digestNumber.rs impl_digestNumber.vs impl_digestNumber.K.I impl_digestNumber.K.O impl_digestNumber.c k x = impl_digestNumber.K.run k x := by
  show _ = impl_digestNumber.f k x
  kernel_rfl
theorem impl_digestNumber.ok : CtrOk Try.prog 62 impl_digestNumber.K :=
  CtrOk.of (fn := Try.f62) (cd := impl_digestNumber.c) (cx := impl_digestNumber.x) (hs := impl_digestNumber.h) (by kernel_rfl) (by kernel_rfl) (by kernel_rfl) (by kernel_rfl) tt_ok (envOk_cons impl_DigestOf.ok (envOk_cons impl_ReadNumber.ok (envOk_nil))) (by kernel_rfl) (by kernel_rfl) (by kernel_rfl) (by kernel_rfl) fun k x r h => (impl_digestNumber.eq k x).trans h
/-! impl.SecretOf -/
noncomputable def impl_SecretOf.c : Code := bodyOf Try.f36
def impl_SecretOf.h : Nat → Hint := look ⟨[], [], []⟩ []
def impl_SecretOf.ps : List PK := [.one]
def impl_SecretOf.rs : List RK := [.one true]
def impl_SecretOf.vs : List ResultVar := [.tmp 2]
def impl_SecretOf.x : Cx := ⟨tt, look none [(62, some impl_digestNumber.K)]⟩
def impl_SecretOf.f (k : Nat) (a0 : ByteArray) : Option (Int) :=
  (bif decide (a0.size + (⟨#[115]⟩ : ByteArray).size ≤ 140737488351232) then (impl_digestNumber.f k (a0 ++ (⟨#[115]⟩ : ByteArray))).bind fun r1 => some (IntKind.i64.wrap ((1 : Int) + (r1.tmod (1073741788 : Int)))) else none)
def impl_SecretOf.K : Ctr := ⟨impl_SecretOf.ps, impl_SecretOf.rs, false, .str, (.int .i64), fun k x => impl_SecretOf.f k x⟩
theorem impl_SecretOf.eq (k : Nat) (x : (impl_SecretOf.K.I).den) : func impl_SecretOf.x impl_SecretOf.h impl_SecretOf.ps impl_SecretOf.rs impl_SecretOf.vs impl_SecretOf.K.I impl_SecretOf.K.O impl_SecretOf.c k x = impl_SecretOf.K.run k x := by
  show _ = impl_SecretOf.f k x
  kernel_rfl
theorem impl_SecretOf.ok : CtrOk Try.prog 36 impl_SecretOf.K :=
  CtrOk.of (fn := Try.f36) (cd := impl_SecretOf.c) (cx := impl_SecretOf.x) (hs := impl_SecretOf.h) (by kernel_rfl) (by kernel_rfl) (by kernel_rfl) (by kernel_rfl) tt_ok (envOk_cons impl_digestNumber.ok (envOk_nil)) (by kernel_rfl) (by kernel_rfl) (by kernel_rfl) (by kernel_rfl) fun k x r h => (impl_SecretOf.eq k x).trans h
/-! impl.GreeterNew -/
noncomputable def impl_GreeterNew.c : Code := bodyOf Try.f15
def impl_GreeterNew.h : Nat → Hint := look ⟨[], [], []⟩ []
def impl_GreeterNew.ps : List PK := [.one, .one, .one, .one]
def impl_GreeterNew.rs : List RK := [.agg 7 true, .one true]
def impl_GreeterNew.vs : List ResultVar := [.cell 8 25, .tmp 9]
def impl_GreeterNew.x : Cx := ⟨tt, look none [(34, some impl_within.K), (35, some impl_InGroup.K), (36, some impl_SecretOf.K)]⟩
def impl_GreeterNew.f (k : Nat) (a0 : Int) (a1 : ByteArray) (a2 : ByteArray) (a3 : Int) : Option (Int × Int × Int × Int × Int × ByteArray × ByteArray × Bool) :=
  (impl_within.f k a0 (1 : Int) (2 : Int)).bind fun r1 => (bif (!r1) then some ((0 : Int), (0 : Int), (0 : Int), (0 : Int), (0 : Int), ByteArray.empty, ByteArray.empty, false) else (impl_InGroup.f k a3).bind fun r2 => (bif (!r2) then some ((0 : Int), (0 : Int), (0 : Int), (0 : Int), (0 : Int), ByteArray.empty, ByteArray.empty, false) else (impl_SecretOf.f k a1).bind fun r3 => (impl_SecretOf.f k a2).bind fun r4 => some (a0, r3, a3, r4, (0 : Int), ByteArray.empty, ByteArray.empty, true)))
def impl_GreeterNew.K : Ctr := ⟨impl_GreeterNew.ps, impl_GreeterNew.rs, false, (.two (.int .i64) (.two .str (.two .str (.int .i64)))), (.two (.int .i64) (.two (.int .i64) (.two (.int .i64) (.two (.int .i64) (.two (.int .i64) (.two .str (.two .str .bool))))))), fun k x => impl_GreeterNew.f k x.1 x.2.1 x.2.2.1 x.2.2.2⟩
theorem impl_GreeterNew.eq (k : Nat) (x : (impl_GreeterNew.K.I).den) : func impl_GreeterNew.x impl_GreeterNew.h impl_GreeterNew.ps impl_GreeterNew.rs impl_GreeterNew.vs impl_GreeterNew.K.I impl_GreeterNew.K.O impl_GreeterNew.c k x = impl_GreeterNew.K.run k x := by
  show _ = impl_GreeterNew.f k x.1 x.2.1 x.2.2.1 x.2.2.2
  kernel_rfl
theorem impl_GreeterNew.ok : CtrOk Try.prog 15 impl_GreeterNew.K :=
  CtrOk.of (fn := Try.f15) (cd := impl_GreeterNew.c) (cx := impl_GreeterNew.x) (hs := impl_GreeterNew.h) (by kernel_rfl) (by kernel_rfl) (by kernel_rfl) (by kernel_rfl) tt_ok (envOk_cons impl_within.ok (envOk_cons impl_InGroup.ok (envOk_cons impl_SecretOf.ok (envOk_nil)))) (by kernel_rfl) (by kernel_rfl) (by kernel_rfl) (by kernel_rfl) fun k x r h => (impl_GreeterNew.eq k x).trans h
/-! laws.eqGreeter -/
noncomputable def laws_eqGreeter.c : Code := bodyOf Try.f13
def laws_eqGreeter.h : Nat → Hint := look ⟨[], [], []⟩ []
def laws_eqGreeter.ps : List PK := [.agg 7, .agg 7]
def laws_eqGreeter.rs : List RK := [.one true]
def laws_eqGreeter.vs : List ResultVar := [.tmp 4]
def laws_eqGreeter.x : Cx := ⟨tt, look none []⟩
def laws_eqGreeter.f (_k : Nat) (a0_0 : Int) (a0_1 : Int) (a0_2 : Int) (a0_3 : Int) (a0_4 : Int) (a0_5 : ByteArray) (a0_6 : ByteArray) (a1_0 : Int) (a1_1 : Int) (a1_2 : Int) (a1_3 : Int) (a1_4 : Int) (a1_5 : ByteArray) (a1_6 : ByteArray) : Option (Bool) :=
  (bif (a0_0 != a1_0) then some false else (bif (a0_1 != a1_1) then some false else (bif (a0_2 != a1_2) then some false else (bif (a0_3 != a1_3) then some false else (bif (a0_4 != a1_4) then some false else (bif (!(a0_5.toList == a1_5.toList)) then some false else (bif (!(a0_6.toList == a1_6.toList)) then some false else some true)))))))
def laws_eqGreeter.K : Ctr := ⟨laws_eqGreeter.ps, laws_eqGreeter.rs, false, (.two (.int .i64) (.two (.int .i64) (.two (.int .i64) (.two (.int .i64) (.two (.int .i64) (.two .str (.two .str (.two (.int .i64) (.two (.int .i64) (.two (.int .i64) (.two (.int .i64) (.two (.int .i64) (.two .str .str))))))))))))), .bool, fun k x => laws_eqGreeter.f k x.1 x.2.1 x.2.2.1 x.2.2.2.1 x.2.2.2.2.1 x.2.2.2.2.2.1 x.2.2.2.2.2.2.1 x.2.2.2.2.2.2.2.1 x.2.2.2.2.2.2.2.2.1 x.2.2.2.2.2.2.2.2.2.1 x.2.2.2.2.2.2.2.2.2.2.1 x.2.2.2.2.2.2.2.2.2.2.2.1 x.2.2.2.2.2.2.2.2.2.2.2.2.1 x.2.2.2.2.2.2.2.2.2.2.2.2.2⟩
theorem laws_eqGreeter.eq (k : Nat) (x : (laws_eqGreeter.K.I).den) : func laws_eqGreeter.x laws_eqGreeter.h laws_eqGreeter.ps laws_eqGreeter.rs laws_eqGreeter.vs laws_eqGreeter.K.I laws_eqGreeter.K.O laws_eqGreeter.c k x = laws_eqGreeter.K.run k x := by
  show _ = laws_eqGreeter.f k x.1 x.2.1 x.2.2.1 x.2.2.2.1 x.2.2.2.2.1 x.2.2.2.2.2.1 x.2.2.2.2.2.2.1 x.2.2.2.2.2.2.2.1 x.2.2.2.2.2.2.2.2.1 x.2.2.2.2.2.2.2.2.2.1 x.2.2.2.2.2.2.2.2.2.2.1 x.2.2.2.2.2.2.2.2.2.2.2.1 x.2.2.2.2.2.2.2.2.2.2.2.2.1 x.2.2.2.2.2.2.2.2.2.2.2.2.2
  kernel_rfl
theorem laws_eqGreeter.ok : CtrOk Try.prog 13 laws_eqGreeter.K :=
  CtrOk.of (fn := Try.f13) (cd := laws_eqGreeter.c) (cx := laws_eqGreeter.x) (hs := laws_eqGreeter.h) (by kernel_rfl) (by kernel_rfl) (by kernel_rfl) (by kernel_rfl) tt_ok (envOk_nil) (by kernel_rfl) (by kernel_rfl) (by kernel_rfl) (by kernel_rfl) fun k x r h => (laws_eqGreeter.eq k x).trans h
/-! laws.FnExactGreeterNew -/
noncomputable def laws_FnExactGreeterNew.c : Code := bodyOf Try.f4
def laws_FnExactGreeterNew.h : Nat → Hint := look ⟨[], [], []⟩ []
def laws_FnExactGreeterNew.ps : List PK := [.one, .one, .one, .one]
def laws_FnExactGreeterNew.rs : List RK := [.one true]
def laws_FnExactGreeterNew.vs : List ResultVar := [.tmp 8]
def laws_FnExactGreeterNew.x : Cx := ⟨tt, look none [(14, some spec_GreeterNew.K), (15, some impl_GreeterNew.K), (13, some laws_eqGreeter.K)]⟩
def laws_FnExactGreeterNew.f (k : Nat) (a0 : Int) (a1 : ByteArray) (a2 : ByteArray) (a3 : Int) : Option (Bool) :=
  (bif (decide ((a1.size : Int) > (1048576 : Int))) then some true else (bif (decide ((a2.size : Int) > (1048576 : Int))) then some true else (spec_GreeterNew.f k a0 a1 a2 a3).bind fun r1 => (impl_GreeterNew.f k a0 a1 a2 a3).bind fun r2 => (laws_eqGreeter.f k r2.1 r2.2.1 r2.2.2.1 r2.2.2.2.1 r2.2.2.2.2.1 r2.2.2.2.2.2.1 r2.2.2.2.2.2.2.1 r1.1 r1.2.1 r1.2.2.1 r1.2.2.2.1 r1.2.2.2.2.1 r1.2.2.2.2.2.1 r1.2.2.2.2.2.2.1).bind fun r3 => (bif (!r3) then some false else (bif (!(r2.2.2.2.2.2.2.2 == r1.2.2.2.2.2.2.2)) then some false else some true))))
def laws_FnExactGreeterNew.K : Ctr := ⟨laws_FnExactGreeterNew.ps, laws_FnExactGreeterNew.rs, false, (.two (.int .i64) (.two .str (.two .str (.int .i64)))), .bool, fun k x => laws_FnExactGreeterNew.f k x.1 x.2.1 x.2.2.1 x.2.2.2⟩
theorem laws_FnExactGreeterNew.eq (k : Nat) (x : (laws_FnExactGreeterNew.K.I).den) : func laws_FnExactGreeterNew.x laws_FnExactGreeterNew.h laws_FnExactGreeterNew.ps laws_FnExactGreeterNew.rs laws_FnExactGreeterNew.vs laws_FnExactGreeterNew.K.I laws_FnExactGreeterNew.K.O laws_FnExactGreeterNew.c k x = laws_FnExactGreeterNew.K.run k x := by
  show _ = laws_FnExactGreeterNew.f k x.1 x.2.1 x.2.2.1 x.2.2.2
  kernel_rfl
theorem laws_FnExactGreeterNew.ok : CtrOk Try.prog 4 laws_FnExactGreeterNew.K :=
  CtrOk.of (fn := Try.f4) (cd := laws_FnExactGreeterNew.c) (cx := laws_FnExactGreeterNew.x) (hs := laws_FnExactGreeterNew.h) (by kernel_rfl) (by kernel_rfl) (by kernel_rfl) (by kernel_rfl) tt_ok (envOk_cons spec_GreeterNew.ok (envOk_cons impl_GreeterNew.ok (envOk_cons laws_eqGreeter.ok (envOk_nil)))) (by kernel_rfl) (by kernel_rfl) (by kernel_rfl) (by kernel_rfl) fun k x r h => (laws_FnExactGreeterNew.eq k x).trans h
end Go.Proofs.Ytpinehfjimphmaa.DI
