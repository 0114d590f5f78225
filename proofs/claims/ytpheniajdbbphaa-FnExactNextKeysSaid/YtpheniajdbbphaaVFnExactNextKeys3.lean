/- FnExactNextKeys: functions as plain Lean, in the machine of values. -/
import Derived.Test.YtpheniajdbbphaaVFnExactNextKeys2
namespace Go.Proofs.Ytpheniajdbbphaa.DI
open Go
set_option linter.unusedVariables false
/-! impl.expanded -/
noncomputable def impl_expanded.c : Code := bodyOf Try.f137
def impl_expanded.h : Nat → Hint := look ⟨[], [], []⟩ [(0, ⟨[3, 4], [], [(.t 3, 976, 3, (.int .i64))]⟩)]
def impl_expanded.ps : List PK := [.one]
def impl_expanded.rs : List RK := [.one true]
def impl_expanded.vs : List ResultVar := [.tmp 2]
def impl_expanded.x : Cx := ⟨tt, look none [(138, some impl_wordsOf.K), (139, some impl_turnRight.K)]⟩
def impl_expanded.s0 (k : Nat) (rec0 : (Int × (List (Int))) → Option ((List (Int)))) (p : (Int × (List (Int)))) : Option ((List (Int))) :=
  (bif (decide (p.1 < (64 : Int))) then (bif ((decide ((0 : Int) ≤ (IntKind.i64.wrap (p.1 - (15 : Int))))) && (decide ((IntKind.i64.wrap (p.1 - (15 : Int))) < (p.2.length : Int)))) then (p.2[(IntKind.i64.wrap (p.1 - (15 : Int))).toNat]?).bind fun x2 => (bif ((decide ((0 : Int) ≤ (IntKind.i64.wrap (p.1 - (2 : Int))))) && (decide ((IntKind.i64.wrap (p.1 - (2 : Int))) < (p.2.length : Int)))) then (p.2[(IntKind.i64.wrap (p.1 - (2 : Int))).toNat]?).bind fun x3 => (impl_turnRight.f k x2 (7 : Int)).bind fun r4 => (impl_turnRight.f k x2 (18 : Int)).bind fun r5 => (impl_turnRight.f k x3 (17 : Int)).bind fun r6 => (impl_turnRight.f k x3 (19 : Int)).bind fun r7 => (bif ((decide ((0 : Int) ≤ (IntKind.i64.wrap (p.1 - (7 : Int))))) && (decide ((IntKind.i64.wrap (p.1 - (7 : Int))) < (p.2.length : Int)))) then (p.2[(IntKind.i64.wrap (p.1 - (7 : Int))).toNat]?).bind fun x8 => (bif ((decide ((0 : Int) ≤ (IntKind.i64.wrap (p.1 - (16 : Int))))) && (decide ((IntKind.i64.wrap (p.1 - (16 : Int))) < (p.2.length : Int)))) then (p.2[(IntKind.i64.wrap (p.1 - (16 : Int))).toNat]?).bind fun x9 => (bif decide ((p.2.length + [(IntKind.i64.wrap (((BitVec.ofInt IntKind.i64.bits (IntKind.i64.wrap ((IntKind.i64.wrap ((IntKind.i64.wrap ((IntKind.i64.wrap (((BitVec.ofInt IntKind.i64.bits (IntKind.i64.wrap (((BitVec.ofInt IntKind.i64.bits r6) ^^^ (BitVec.ofInt IntKind.i64.bits r7)).toNat : Int))) ^^^ (BitVec.ofInt IntKind.i64.bits (x3.fdiv (2 ^ 10)))).toNat : Int)) + x8)) + (IntKind.i64.wrap (((BitVec.ofInt IntKind.i64.bits (IntKind.i64.wrap (((BitVec.ofInt IntKind.i64.bits r4) ^^^ (BitVec.ofInt IntKind.i64.bits r5)).toNat : Int))) ^^^ (BitVec.ofInt IntKind.i64.bits (x2.fdiv (2 ^ 3)))).toNat : Int)))) + x9))) &&& (BitVec.ofInt IntKind.i64.bits (4294967295 : Int))).toNat : Int))].length) * 8 ≤ 140737488355328) then rec0 ((IntKind.i64.wrap (p.1 + (1 : Int))), (p.2 ++ [(IntKind.i64.wrap (((BitVec.ofInt IntKind.i64.bits (IntKind.i64.wrap ((IntKind.i64.wrap ((IntKind.i64.wrap ((IntKind.i64.wrap (((BitVec.ofInt IntKind.i64.bits (IntKind.i64.wrap (((BitVec.ofInt IntKind.i64.bits r6) ^^^ (BitVec.ofInt IntKind.i64.bits r7)).toNat : Int))) ^^^ (BitVec.ofInt IntKind.i64.bits (x3.fdiv (2 ^ 10)))).toNat : Int)) + x8)) + (IntKind.i64.wrap (((BitVec.ofInt IntKind.i64.bits (IntKind.i64.wrap (((BitVec.ofInt IntKind.i64.bits r4) ^^^ (BitVec.ofInt IntKind.i64.bits r5)).toNat : Int))) ^^^ (BitVec.ofInt IntKind.i64.bits (x2.fdiv (2 ^ 3)))).toNat : Int)))) + x9))) &&& (BitVec.ofInt IntKind.i64.bits (4294967295 : Int))).toNat : Int))])) else none) else none) else none) else none) else none) else some p.2)
def impl_expanded.l0 (k : Nat) : Nat → (Int × (List (Int))) → Option ((List (Int)))
  | 0 => fun _ => none
  | j + 1 => impl_expanded.s0 k (impl_expanded.l0 k j)
def impl_expanded.S0 (p : (Int × (List (Int)))) : DS := ⟨tl [(3, .at (.whole 976)), (4, .at (.int .i64 p.1))], lookO [(976, .row 3 (.int .i64) true p.2)]⟩
noncomputable def impl_expanded.D0 (k : Nat) (j : Nat) (p : (Int × (List (Int)))) : Option ((List (Int))) := loopK (norm [] (impl_expanded.h 0)) (runK impl_expanded.x k 0 [] impl_expanded.h 0 (sub impl_expanded.c [1, 1, 0, 1, 0, 0])) j (impl_expanded.S0 p) (kBlk 0 (kSeq (runK impl_expanded.x k 0 [] impl_expanded.h 0 (sub impl_expanded.c [1, 1, 1])) (fin tt impl_expanded.ps impl_expanded.rs impl_expanded.vs (.sl 3 (.int .i64)))))
theorem impl_expanded.D0_eq (k : Nat) : ∀ j, impl_expanded.D0 k j = impl_expanded.l0 k j := by
  intro j
  induction j with
  | zero => rfl
  | succ j ih =>
    show _ = impl_expanded.s0 k (impl_expanded.l0 k j)
    rw [← ih]
    funext p
    kernel_rfl
def impl_expanded.f (k : Nat) (a0 : ByteArray) : Option ((List (Int))) :=
  (impl_wordsOf.f k a0).bind fun r1 => impl_expanded.l0 k k ((16 : Int), r1)
def impl_expanded.K : Ctr := ⟨impl_expanded.ps, impl_expanded.rs, false, .str, (.sl 3 (.int .i64)), fun k x => impl_expanded.f k x⟩
theorem impl_expanded.eq (k : Nat) (x : (impl_expanded.K.I).den) : func impl_expanded.x impl_expanded.h impl_expanded.ps impl_expanded.rs impl_expanded.vs impl_expanded.K.I impl_expanded.K.O impl_expanded.c k x = impl_expanded.K.run k x := by
  show _ = impl_expanded.f k x
  unfold impl_expanded.f
  rw [← impl_expanded.D0_eq k k]
  kernel_rfl
theorem impl_expanded.ok : CtrOk Try.prog 137 impl_expanded.K :=
  CtrOk.of (fn := Try.f137) (cd := impl_expanded.c) (cx := impl_expanded.x) (hs := impl_expanded.h) (by kernel_rfl) (by kernel_rfl) (by kernel_rfl) (by kernel_rfl) tt_ok (envOk_cons impl_wordsOf.ok (envOk_cons impl_turnRight.ok (envOk_nil))) (by kernel_rfl) (by kernel_rfl) (by kernel_rfl) (by kernel_rfl) fun k x r h => (impl_expanded.eq k x).trans h
/-! impl.round -/
noncomputable def impl_round.c : Code := bodyOf Try.f129
def impl_round.h : Nat → Hint := look ⟨[], [], []⟩ [(0, ⟨[5, 6, 7, 8, 9, 10, 11, 12, 13, 14, 15, 52], [80], [(.t 6, 2368, 3, (.int .i64)), (.t 7, 2369, 3, (.int .i64))]⟩), (2, ⟨[7, 128, 129, 130], [], [(.t 7, 2368, 3, (.int .i64)), (.t 128, 2369, 3, (.int .i64))]⟩)]
def impl_round.ps : List PK := [.one, .one]
def impl_round.rs : List RK := [.one true]
def impl_round.vs : List ResultVar := [.tmp 4]
def impl_round.x : Cx := ⟨tt, look none [(136, some impl_constants.K), (137, some impl_expanded.K), (138, some impl_wordsOf.K), (139, some impl_turnRight.K), (130, some impl_wordsText.K)]⟩
def impl_round.s2 (k : Nat) (rec2 : (Int × Int × (List (Int)) × (List (Int))) → Option (ByteArray)) (p : (Int × Int × (List (Int)) × (List (Int)))) : Option (ByteArray) :=
  (bif (decide (p.2.1 < p.1)) then (bif ((decide ((0 : Int) ≤ p.2.1)) && (decide (p.2.1 < (p.2.2.2.length : Int)))) then (p.2.2.2[p.2.1.toNat]?).bind fun x20 => (bif ((decide ((0 : Int) ≤ p.2.1)) && (decide (p.2.1 < (p.2.2.1.length : Int)))) then (p.2.2.1[p.2.1.toNat]?).bind fun x21 => (bif ((decide ((0 : Int) ≤ p.2.1)) && (decide (p.2.1 < (p.2.2.1.length : Int)))) then (p.2.2.1[p.2.1.toNat]?).bind fun x22 => rec2 (p.1, (IntKind.i64.wrap (p.2.1 + (1 : Int))), (p.2.2.1.set p.2.1.toNat (IntKind.i64.wrap (((BitVec.ofInt IntKind.i64.bits (IntKind.i64.wrap (x21 + x20))) &&& (BitVec.ofInt IntKind.i64.bits (4294967295 : Int))).toNat : Int))), p.2.2.2) else none) else none) else none) else (impl_wordsText.f k p.2.2.1).bind fun r23 => some r23)
def impl_round.l2 (k : Nat) : Nat → (Int × Int × (List (Int)) × (List (Int))) → Option (ByteArray)
  | 0 => fun _ => none
  | j + 1 => impl_round.s2 k (impl_round.l2 k j)
def impl_round.s0 (k : Nat) (rec0 : (Int × Int × Int × Int × Int × Int × Int × Int × Int × (List (Int)) × (List (Int)) × (List (Int))) → Option (ByteArray)) (i2 : (Int × Int × (List (Int)) × (List (Int))) → Option (ByteArray)) (p : (Int × Int × Int × Int × Int × Int × Int × Int × Int × (List (Int)) × (List (Int)) × (List (Int)))) : Option (ByteArray) :=
  (bif (decide (p.2.2.2.2.2.2.2.2.1 < (64 : Int))) then (impl_turnRight.f k p.2.2.2.2.1 (6 : Int)).bind fun r12 => (impl_turnRight.f k p.2.2.2.2.1 (11 : Int)).bind fun r13 => (impl_turnRight.f k p.2.2.2.2.1 (25 : Int)).bind fun r14 => (bif ((decide ((0 : Int) ≤ p.2.2.2.2.2.2.2.2.1)) && ((decide (p.2.2.2.2.2.2.2.2.1 < (p.2.2.2.2.2.2.2.2.2.1.length : Int))) && (decide (p.2.2.2.2.2.2.2.2.1 < (64 : Int))))) then (p.2.2.2.2.2.2.2.2.2.1[p.2.2.2.2.2.2.2.2.1.toNat]?).bind fun x15 => (bif ((decide ((0 : Int) ≤ p.2.2.2.2.2.2.2.2.1)) && (decide (p.2.2.2.2.2.2.2.2.1 < (p.2.2.2.2.2.2.2.2.2.2.1.length : Int)))) then (p.2.2.2.2.2.2.2.2.2.2.1[p.2.2.2.2.2.2.2.2.1.toNat]?).bind fun x16 => (impl_turnRight.f k p.1 (2 : Int)).bind fun r17 => (impl_turnRight.f k p.1 (13 : Int)).bind fun r18 => (impl_turnRight.f k p.1 (22 : Int)).bind fun r19 => rec0 ((IntKind.i64.wrap (((BitVec.ofInt IntKind.i64.bits (IntKind.i64.wrap ((IntKind.i64.wrap ((IntKind.i64.wrap ((IntKind.i64.wrap ((IntKind.i64.wrap (p.2.2.2.2.2.2.2.1 + (IntKind.i64.wrap (((BitVec.ofInt IntKind.i64.bits (IntKind.i64.wrap (((BitVec.ofInt IntKind.i64.bits r12) ^^^ (BitVec.ofInt IntKind.i64.bits r13)).toNat : Int))) ^^^ (BitVec.ofInt IntKind.i64.bits r14)).toNat : Int)))) + (IntKind.i64.wrap (((BitVec.ofInt IntKind.i64.bits (IntKind.i64.wrap (((BitVec.ofInt IntKind.i64.bits p.2.2.2.2.1) &&& (BitVec.ofInt IntKind.i64.bits p.2.2.2.2.2.1)).toNat : Int))) ^^^ (BitVec.ofInt IntKind.i64.bits (IntKind.i64.wrap (((BitVec.ofInt IntKind.i64.bits (IntKind.i64.wrap (((BitVec.ofInt IntKind.i64.bits (4294967295 : Int)) ^^^ (BitVec.ofInt IntKind.i64.bits p.2.2.2.2.1)).toNat : Int))) &&& (BitVec.ofInt IntKind.i64.bits p.2.2.2.2.2.2.1)).toNat : Int)))).toNat : Int)))) + x15)) + x16)) + (IntKind.i64.wrap ((IntKind.i64.wrap (((BitVec.ofInt IntKind.i64.bits (IntKind.i64.wrap (((BitVec.ofInt IntKind.i64.bits r17) ^^^ (BitVec.ofInt IntKind.i64.bits r18)).toNat : Int))) ^^^ (BitVec.ofInt IntKind.i64.bits r19)).toNat : Int)) + (IntKind.i64.wrap (((BitVec.ofInt IntKind.i64.bits (IntKind.i64.wrap (((BitVec.ofInt IntKind.i64.bits (IntKind.i64.wrap (((BitVec.ofInt IntKind.i64.bits p.1) &&& (BitVec.ofInt IntKind.i64.bits p.2.1)).toNat : Int))) ^^^ (BitVec.ofInt IntKind.i64.bits (IntKind.i64.wrap (((BitVec.ofInt IntKind.i64.bits p.1) &&& (BitVec.ofInt IntKind.i64.bits p.2.2.1)).toNat : Int)))).toNat : Int))) ^^^ (BitVec.ofInt IntKind.i64.bits (IntKind.i64.wrap (((BitVec.ofInt IntKind.i64.bits p.2.1) &&& (BitVec.ofInt IntKind.i64.bits p.2.2.1)).toNat : Int)))).toNat : Int))))))) &&& (BitVec.ofInt IntKind.i64.bits (4294967295 : Int))).toNat : Int)), p.1, p.2.1, p.2.2.1, (IntKind.i64.wrap (((BitVec.ofInt IntKind.i64.bits (IntKind.i64.wrap (p.2.2.2.1 + (IntKind.i64.wrap ((IntKind.i64.wrap ((IntKind.i64.wrap ((IntKind.i64.wrap (p.2.2.2.2.2.2.2.1 + (IntKind.i64.wrap (((BitVec.ofInt IntKind.i64.bits (IntKind.i64.wrap (((BitVec.ofInt IntKind.i64.bits r12) ^^^ (BitVec.ofInt IntKind.i64.bits r13)).toNat : Int))) ^^^ (BitVec.ofInt IntKind.i64.bits r14)).toNat : Int)))) + (IntKind.i64.wrap (((BitVec.ofInt IntKind.i64.bits (IntKind.i64.wrap (((BitVec.ofInt IntKind.i64.bits p.2.2.2.2.1) &&& (BitVec.ofInt IntKind.i64.bits p.2.2.2.2.2.1)).toNat : Int))) ^^^ (BitVec.ofInt IntKind.i64.bits (IntKind.i64.wrap (((BitVec.ofInt IntKind.i64.bits (IntKind.i64.wrap (((BitVec.ofInt IntKind.i64.bits (4294967295 : Int)) ^^^ (BitVec.ofInt IntKind.i64.bits p.2.2.2.2.1)).toNat : Int))) &&& (BitVec.ofInt IntKind.i64.bits p.2.2.2.2.2.2.1)).toNat : Int)))).toNat : Int)))) + x15)) + x16))))) &&& (BitVec.ofInt IntKind.i64.bits (4294967295 : Int))).toNat : Int)), p.2.2.2.2.1, p.2.2.2.2.2.1, p.2.2.2.2.2.2.1, (IntKind.i64.wrap (p.2.2.2.2.2.2.2.2.1 + (1 : Int))), p.2.2.2.2.2.2.2.2.2.1, p.2.2.2.2.2.2.2.2.2.2.1, p.2.2.2.2.2.2.2.2.2.2.2) else none) else none) else i2 (([p.1, p.2.1, p.2.2.1, p.2.2.2.1, p.2.2.2.2.1, p.2.2.2.2.2.1, p.2.2.2.2.2.2.1, p.2.2.2.2.2.2.2.1].length : Int), (0 : Int), p.2.2.2.2.2.2.2.2.2.2.2, [p.1, p.2.1, p.2.2.1, p.2.2.2.1, p.2.2.2.2.1, p.2.2.2.2.2.1, p.2.2.2.2.2.2.1, p.2.2.2.2.2.2.2.1]))
def impl_round.l0 (k : Nat) : Nat → (Int × Int × Int × Int × Int × Int × Int × Int × Int × (List (Int)) × (List (Int)) × (List (Int))) → Option (ByteArray)
  | 0 => fun _ => none
  | j + 1 => impl_round.s0 k (impl_round.l0 k j) (impl_round.l2 k k)
def impl_round.S2 (p : (Int × Int × (List (Int)) × (List (Int)))) : DS := ⟨tl [(7, .at (.whole 2368)), (128, .at (.whole 2369)), (129, .at (.int .i64 p.1)), (130, .at (.int .i64 p.2.1))], lookO [(2368, .row 3 (.int .i64) true p.2.2.1), (2369, .row 3 (.int .i64) true p.2.2.2)]⟩
def impl_round.S0 (p : (Int × Int × Int × Int × Int × Int × Int × Int × Int × (List (Int)) × (List (Int)) × (List (Int)))) : DS := ⟨tl [(5, .at (.eptr 80 0 0)), (6, .at (.whole 2368)), (7, .at (.whole 2369)), (8, .at (.int .i64 p.1)), (9, .at (.int .i64 p.2.1)), (10, .at (.int .i64 p.2.2.1)), (11, .at (.int .i64 p.2.2.2.1)), (12, .at (.int .i64 p.2.2.2.2.1)), (13, .at (.int .i64 p.2.2.2.2.2.1)), (14, .at (.int .i64 p.2.2.2.2.2.2.1)), (15, .at (.int .i64 p.2.2.2.2.2.2.2.1)), (52, .at (.int .i64 p.2.2.2.2.2.2.2.2.1))], lookO [(80, .row 149 (.int .i64) true p.2.2.2.2.2.2.2.2.2.1), (2368, .row 3 (.int .i64) true p.2.2.2.2.2.2.2.2.2.2.1), (2369, .row 3 (.int .i64) true p.2.2.2.2.2.2.2.2.2.2.2)]⟩
noncomputable def impl_round.D2 (k : Nat) (j : Nat) (p : (Int × Int × (List (Int)) × (List (Int)))) : Option (ByteArray) := loopK (norm [] (impl_round.h 2)) (runK impl_round.x k 0 [] impl_round.h 2 (sub impl_round.c [1, 1, 1, 1, 1, 1, 0, 1, 0, 0])) j (impl_round.S2 p) (kBlk 2 (kSeq (runK impl_round.x k 0 [] impl_round.h 0 (sub impl_round.c [1, 1, 1, 1, 1, 1, 1])) (fin tt impl_round.ps impl_round.rs impl_round.vs .str)))
noncomputable def impl_round.D0 (k : Nat) (j : Nat) (p : (Int × Int × Int × Int × Int × Int × Int × Int × Int × (List (Int)) × (List (Int)) × (List (Int)))) : Option (ByteArray) := loopK (norm [] (impl_round.h 0)) (runK impl_round.x k 0 [] impl_round.h 0 (sub impl_round.c [1, 1, 1, 1, 1, 0, 1, 0, 0])) j (impl_round.S0 p) (kBlk 0 (kSeq (runK impl_round.x k 0 [] impl_round.h 0 (sub impl_round.c [1, 1, 1, 1, 1, 1])) (fin tt impl_round.ps impl_round.rs impl_round.vs .str)))
theorem impl_round.D2_eq (k : Nat) : ∀ j, impl_round.D2 k j = impl_round.l2 k j := by
  intro j
  induction j with
  | zero => rfl
  | succ j ih =>
    show _ = impl_round.s2 k (impl_round.l2 k j)
    rw [← ih]
    funext p
    kernel_rfl
theorem impl_round.D0_eq (k : Nat) : ∀ j, impl_round.D0 k j = impl_round.l0 k j := by
  intro j
  induction j with
  | zero => rfl
  | succ j ih =>
    show _ = impl_round.s0 k (impl_round.l0 k j) (impl_round.l2 k k)
    rw [← ih, ← impl_round.D2_eq k k]
    funext p
    kernel_rfl
def impl_round.f (k : Nat) (a0 : ByteArray) (a1 : ByteArray) : Option (ByteArray) :=
  (impl_constants.f k).bind fun r1 => (impl_expanded.f k a1).bind fun r2 => (impl_wordsOf.f k a0).bind fun r3 => (bif (true && (decide ((0 : Int) < (r3.length : Int)))) then (r3[0]?).bind fun x4 => (bif (true && (decide ((1 : Int) < (r3.length : Int)))) then (r3[1]?).bind fun x5 => (bif (true && (decide ((2 : Int) < (r3.length : Int)))) then (r3[2]?).bind fun x6 => (bif (true && (decide ((3 : Int) < (r3.length : Int)))) then (r3[3]?).bind fun x7 => (bif (true && (decide ((4 : Int) < (r3.length : Int)))) then (r3[4]?).bind fun x8 => (bif (true && (decide ((5 : Int) < (r3.length : Int)))) then (r3[5]?).bind fun x9 => (bif (true && (decide ((6 : Int) < (r3.length : Int)))) then (r3[6]?).bind fun x10 => (bif (true && (decide ((7 : Int) < (r3.length : Int)))) then (r3[7]?).bind fun x11 => impl_round.l0 k k (x4, x5, x6, x7, x8, x9, x10, x11, (0 : Int), [r1.1, r1.2.1, r1.2.2.1, r1.2.2.2.1, r1.2.2.2.2.1, r1.2.2.2.2.2.1, r1.2.2.2.2.2.2.1, r1.2.2.2.2.2.2.2.1, r1.2.2.2.2.2.2.2.2.1, r1.2.2.2.2.2.2.2.2.2.1, r1.2.2.2.2.2.2.2.2.2.2.1, r1.2.2.2.2.2.2.2.2.2.2.2.1, r1.2.2.2.2.2.2.2.2.2.2.2.2.1, r1.2.2.2.2.2.2.2.2.2.2.2.2.2.1, r1.2.2.2.2.2.2.2.2.2.2.2.2.2.2.1, r1.2.2.2.2.2.2.2.2.2.2.2.2.2.2.2.1, r1.2.2.2.2.2.2.2.2.2.2.2.2.2.2.2.2.1, r1.2.2.2.2.2.2.2.2.2.2.2.2.2.2.2.2.2.1, r1.2.2.2.2.2.2.2.2.2.2.2.2.2.2.2.2.2.2.1, r1.2.2.2.2.2.2.2.2.2.2.2.2.2.2.2.2.2.2.2.1, r1.2.2.2.2.2.2.2.2.2.2.2.2.2.2.2.2.2.2.2.2.1, r1.2.2.2.2.2.2.2.2.2.2.2.2.2.2.2.2.2.2.2.2.2.1, r1.2.2.2.2.2.2.2.2.2.2.2.2.2.2.2.2.2.2.2.2.2.2.1, r1.2.2.2.2.2.2.2.2.2.2.2.2.2.2.2.2.2.2.2.2.2.2.2.1, r1.2.2.2.2.2.2.2.2.2.2.2.2.2.2.2.2.2.2.2.2.2.2.2.2.1, r1.2.2.2.2.2.2.2.2.2.2.2.2.2.2.2.2.2.2.2.2.2.2.2.2.2.1, r1.2.2.2.2.2.2.2.2.2.2.2.2.2.2.2.2.2.2.2.2.2.2.2.2.2.2.1, r1.2.2.2.2.2.2.2.2.2.2.2.2.2.2.2.2.2.2.2.2.2.2.2.2.2.2.2.1, r1.2.2.2.2.2.2.2.2.2.2.2.2.2.2.2.2.2.2.2.2.2.2.2.2.2.2.2.2.1, r1.2.2.2.2.2.2.2.2.2.2.2.2.2.2.2.2.2.2.2.2.2.2.2.2.2.2.2.2.2.1, r1.2.2.2.2.2.2.2.2.2.2.2.2.2.2.2.2.2.2.2.2.2.2.2.2.2.2.2.2.2.2.1, r1.2.2.2.2.2.2.2.2.2.2.2.2.2.2.2.2.2.2.2.2.2.2.2.2.2.2.2.2.2.2.2.1, r1.2.2.2.2.2.2.2.2.2.2.2.2.2.2.2.2.2.2.2.2.2.2.2.2.2.2.2.2.2.2.2.2.1, r1.2.2.2.2.2.2.2.2.2.2.2.2.2.2.2.2.2.2.2.2.2.2.2.2.2.2.2.2.2.2.2.2.2.1, r1.2.2.2.2.2.2.2.2.2.2.2.2.2.2.2.2.2.2.2.2.2.2.2.2.2.2.2.2.2.2.2.2.2.2.1, r1.2.2.2.2.2.2.2.2.2.2.2.2.2.2.2.2.2.2.2.2.2.2.2.2.2.2.2.2.2.2.2.2.2.2.2.1, r1.2.2.2.2.2.2.2.2.2.2.2.2.2.2.2.2.2.2.2.2.2.2.2.2.2.2.2.2.2.2.2.2.2.2.2.2.1, r1.2.2.2.2.2.2.2.2.2.2.2.2.2.2.2.2.2.2.2.2.2.2.2.2.2.2.2.2.2.2.2.2.2.2.2.2.2.1, r1.2.2.2.2.2.2.2.2.2.2.2.2.2.2.2.2.2.2.2.2.2.2.2.2.2.2.2.2.2.2.2.2.2.2.2.2.2.2.1, r1.2.2.2.2.2.2.2.2.2.2.2.2.2.2.2.2.2.2.2.2.2.2.2.2.2.2.2.2.2.2.2.2.2.2.2.2.2.2.2.1, r1.2.2.2.2.2.2.2.2.2.2.2.2.2.2.2.2.2.2.2.2.2.2.2.2.2.2.2.2.2.2.2.2.2.2.2.2.2.2.2.2.1, r1.2.2.2.2.2.2.2.2.2.2.2.2.2.2.2.2.2.2.2.2.2.2.2.2.2.2.2.2.2.2.2.2.2.2.2.2.2.2.2.2.2.1, r1.2.2.2.2.2.2.2.2.2.2.2.2.2.2.2.2.2.2.2.2.2.2.2.2.2.2.2.2.2.2.2.2.2.2.2.2.2.2.2.2.2.2.1, r1.2.2.2.2.2.2.2.2.2.2.2.2.2.2.2.2.2.2.2.2.2.2.2.2.2.2.2.2.2.2.2.2.2.2.2.2.2.2.2.2.2.2.2.1, r1.2.2.2.2.2.2.2.2.2.2.2.2.2.2.2.2.2.2.2.2.2.2.2.2.2.2.2.2.2.2.2.2.2.2.2.2.2.2.2.2.2.2.2.2.1, r1.2.2.2.2.2.2.2.2.2.2.2.2.2.2.2.2.2.2.2.2.2.2.2.2.2.2.2.2.2.2.2.2.2.2.2.2.2.2.2.2.2.2.2.2.2.1, r1.2.2.2.2.2.2.2.2.2.2.2.2.2.2.2.2.2.2.2.2.2.2.2.2.2.2.2.2.2.2.2.2.2.2.2.2.2.2.2.2.2.2.2.2.2.2.1, r1.2.2.2.2.2.2.2.2.2.2.2.2.2.2.2.2.2.2.2.2.2.2.2.2.2.2.2.2.2.2.2.2.2.2.2.2.2.2.2.2.2.2.2.2.2.2.2.1, r1.2.2.2.2.2.2.2.2.2.2.2.2.2.2.2.2.2.2.2.2.2.2.2.2.2.2.2.2.2.2.2.2.2.2.2.2.2.2.2.2.2.2.2.2.2.2.2.2.1, r1.2.2.2.2.2.2.2.2.2.2.2.2.2.2.2.2.2.2.2.2.2.2.2.2.2.2.2.2.2.2.2.2.2.2.2.2.2.2.2.2.2.2.2.2.2.2.2.2.2.1, r1.2.2.2.2.2.2.2.2.2.2.2.2.2.2.2.2.2.2.2.2.2.2.2.2.2.2.2.2.2.2.2.2.2.2.2.2.2.2.2.2.2.2.2.2.2.2.2.2.2.2.1, r1.2.2.2.2.2.2.2.2.2.2.2.2.2.2.2.2.2.2.2.2.2.2.2.2.2.2.2.2.2.2.2.2.2.2.2.2.2.2.2.2.2.2.2.2.2.2.2.2.2.2.2.1, r1.2.2.2.2.2.2.2.2.2.2.2.2.2.2.2.2.2.2.2.2.2.2.2.2.2.2.2.2.2.2.2.2.2.2.2.2.2.2.2.2.2.2.2.2.2.2.2.2.2.2.2.2.1, r1.2.2.2.2.2.2.2.2.2.2.2.2.2.2.2.2.2.2.2.2.2.2.2.2.2.2.2.2.2.2.2.2.2.2.2.2.2.2.2.2.2.2.2.2.2.2.2.2.2.2.2.2.2.1, r1.2.2.2.2.2.2.2.2.2.2.2.2.2.2.2.2.2.2.2.2.2.2.2.2.2.2.2.2.2.2.2.2.2.2.2.2.2.2.2.2.2.2.2.2.2.2.2.2.2.2.2.2.2.2.1, r1.2.2.2.2.2.2.2.2.2.2.2.2.2.2.2.2.2.2.2.2.2.2.2.2.2.2.2.2.2.2.2.2.2.2.2.2.2.2.2.2.2.2.2.2.2.2.2.2.2.2.2.2.2.2.2.1, r1.2.2.2.2.2.2.2.2.2.2.2.2.2.2.2.2.2.2.2.2.2.2.2.2.2.2.2.2.2.2.2.2.2.2.2.2.2.2.2.2.2.2.2.2.2.2.2.2.2.2.2.2.2.2.2.2.1, r1.2.2.2.2.2.2.2.2.2.2.2.2.2.2.2.2.2.2.2.2.2.2.2.2.2.2.2.2.2.2.2.2.2.2.2.2.2.2.2.2.2.2.2.2.2.2.2.2.2.2.2.2.2.2.2.2.2.1, r1.2.2.2.2.2.2.2.2.2.2.2.2.2.2.2.2.2.2.2.2.2.2.2.2.2.2.2.2.2.2.2.2.2.2.2.2.2.2.2.2.2.2.2.2.2.2.2.2.2.2.2.2.2.2.2.2.2.2.1, r1.2.2.2.2.2.2.2.2.2.2.2.2.2.2.2.2.2.2.2.2.2.2.2.2.2.2.2.2.2.2.2.2.2.2.2.2.2.2.2.2.2.2.2.2.2.2.2.2.2.2.2.2.2.2.2.2.2.2.2.1, r1.2.2.2.2.2.2.2.2.2.2.2.2.2.2.2.2.2.2.2.2.2.2.2.2.2.2.2.2.2.2.2.2.2.2.2.2.2.2.2.2.2.2.2.2.2.2.2.2.2.2.2.2.2.2.2.2.2.2.2.2.1, r1.2.2.2.2.2.2.2.2.2.2.2.2.2.2.2.2.2.2.2.2.2.2.2.2.2.2.2.2.2.2.2.2.2.2.2.2.2.2.2.2.2.2.2.2.2.2.2.2.2.2.2.2.2.2.2.2.2.2.2.2.2.1, r1.2.2.2.2.2.2.2.2.2.2.2.2.2.2.2.2.2.2.2.2.2.2.2.2.2.2.2.2.2.2.2.2.2.2.2.2.2.2.2.2.2.2.2.2.2.2.2.2.2.2.2.2.2.2.2.2.2.2.2.2.2.2.1, r1.2.2.2.2.2.2.2.2.2.2.2.2.2.2.2.2.2.2.2.2.2.2.2.2.2.2.2.2.2.2.2.2.2.2.2.2.2.2.2.2.2.2.2.2.2.2.2.2.2.2.2.2.2.2.2.2.2.2.2.2.2.2.2], r2, r3) else none) else none) else none) else none) else none) else none) else none) else none)
def impl_round.K : Ctr := ⟨impl_round.ps, impl_round.rs, false, (.two .str .str), .str, fun k x => impl_round.f k x.1 x.2⟩
theorem impl_round.eq (k : Nat) (x : (impl_round.K.I).den) : func impl_round.x impl_round.h impl_round.ps impl_round.rs impl_round.vs impl_round.K.I impl_round.K.O impl_round.c k x = impl_round.K.run k x := by
  show _ = impl_round.f k x.1 x.2
  unfold impl_round.f
  rw [← impl_round.D0_eq k k]
  kernel_rfl
theorem impl_round.ok : CtrOk Try.prog 129 impl_round.K :=
  CtrOk.of (fn := Try.f129) (cd := impl_round.c) (cx := impl_round.x) (hs := impl_round.h) (by kernel_rfl) (by kernel_rfl) (by kernel_rfl) (by kernel_rfl) tt_ok (envOk_cons impl_constants.ok (envOk_cons impl_expanded.ok (envOk_cons impl_wordsOf.ok (envOk_cons impl_turnRight.ok (envOk_cons impl_wordsText.ok (envOk_nil)))))) (by kernel_rfl) (by kernel_rfl) (by kernel_rfl) (by kernel_rfl) fun k x r h => (impl_round.eq k x).trans h
/-! impl.rounds -/
noncomputable def impl_rounds.c : Code := bodyOf Try.f116
def impl_rounds.h : Nat → Hint := look ⟨[], [], []⟩ [(0, ⟨[0, 1], [], []⟩)]
def impl_rounds.ps : List PK := [.one, .one]
def impl_rounds.rs : List RK := [.one true, .one true]
def impl_rounds.vs : List ResultVar := [.tmp 4, .tmp 5]
def impl_rounds.x : Cx := ⟨tt, look none [(129, some impl_round.K)]⟩
def impl_rounds.s0 (k : Nat) (rec0 : (ByteArray × ByteArray) → Option (ByteArray × ByteArray)) (p : (ByteArray × ByteArray)) : Option (ByteArray × ByteArray) :=
  (bif (decide ((p.2.size : Int) ≥ (64 : Int))) then (bif (true && (decide ((64 : Int) ≤ (p.2.size : Int)))) then (impl_round.f k p.1 (p.2.extract 0 64)).bind fun r1 => (bif (true && (decide ((64 : Int) ≤ (p.2.size : Int)))) then rec0 (r1, (p.2.extract 64 p.2.size)) else none) else none) else some (p.1, p.2))
def impl_rounds.l0 (k : Nat) : Nat → (ByteArray × ByteArray) → Option (ByteArray × ByteArray)
  | 0 => fun _ => none
  | j + 1 => impl_rounds.s0 k (impl_rounds.l0 k j)
def impl_rounds.S0 (p : (ByteArray × ByteArray)) : DS := ⟨tl [(0, .at (.str p.1)), (1, .at (.str p.2))], lookO []⟩
noncomputable def impl_rounds.D0 (k : Nat) (j : Nat) (p : (ByteArray × ByteArray)) : Option (ByteArray × ByteArray) := loopK (norm [] (impl_rounds.h 0)) (runK impl_rounds.x k 0 [] impl_rounds.h 0 (sub impl_rounds.c [1, 0, 0, 0])) j (impl_rounds.S0 p) (kBlk 0 (kSeq (runK impl_rounds.x k 0 [] impl_rounds.h 0 (sub impl_rounds.c [1, 1])) (fin tt impl_rounds.ps impl_rounds.rs impl_rounds.vs (.two .str .str))))
theorem impl_rounds.D0_eq (k : Nat) : ∀ j, impl_rounds.D0 k j = impl_rounds.l0 k j := by
  intro j
  induction j with
  | zero => rfl
  | succ j ih =>
    show _ = impl_rounds.s0 k (impl_rounds.l0 k j)
    rw [← ih]
    funext p
    kernel_rfl
def impl_rounds.f (k : Nat) (a0 : ByteArray) (a1 : ByteArray) : Option (ByteArray × ByteArray) :=
  impl_rounds.l0 k k (a0, a1)
def impl_rounds.K : Ctr := ⟨impl_rounds.ps, impl_rounds.rs, false, (.two .str .str), (.two .str .str), fun k x => impl_rounds.f k x.1 x.2⟩
theorem impl_rounds.eq (k : Nat) (x : (impl_rounds.K.I).den) : func impl_rounds.x impl_rounds.h impl_rounds.ps impl_rounds.rs impl_rounds.vs impl_rounds.K.I impl_rounds.K.O impl_rounds.c k x = impl_rounds.K.run k x := by
  show _ = impl_rounds.f k x.1 x.2
  unfold impl_rounds.f
  rw [← impl_rounds.D0_eq k k]
  kernel_rfl
theorem impl_rounds.ok : CtrOk Try.prog 116 impl_rounds.K :=
  CtrOk.of (fn := Try.f116) (cd := impl_rounds.c) (cx := impl_rounds.x) (hs := impl_rounds.h) (by kernel_rfl) (by kernel_rfl) (by kernel_rfl) (by kernel_rfl) tt_ok (envOk_cons impl_round.ok (envOk_nil)) (by kernel_rfl) (by kernel_rfl) (by kernel_rfl) (by kernel_rfl) fun k x r h => (impl_rounds.eq k x).trans h
/-! impl.DigestOf -/
noncomputable def impl_DigestOf.c : Code := bodyOf Try.f94
def impl_DigestOf.h : Nat → Hint := look ⟨[], [], []⟩ []
def impl_DigestOf.ps : List PK := [.one]
def impl_DigestOf.rs : List RK := [.one true]
def impl_DigestOf.vs : List ResultVar := [.tmp 2]
def impl_DigestOf.x : Cx := ⟨tt, look none [(117, some impl_firstState.K), (118, some impl_padding.K), (116, some impl_rounds.K)]⟩
def impl_DigestOf.f (k : Nat) (a0 : ByteArray) : Option (ByteArray) :=
  (impl_firstState.f k).bind fun r1 => (impl_padding.f k (a0.size : Int)).bind fun r2 => (bif decide (a0.size + r2.size ≤ 140737488351232) then (impl_rounds.f k r1 (a0 ++ r2)).bind fun r3 => some r3.1 else none)
def impl_DigestOf.K : Ctr := ⟨impl_DigestOf.ps, impl_DigestOf.rs, false, .str, .str, fun k x => impl_DigestOf.f k x⟩
theorem impl_DigestOf.eq (k : Nat) (x : (impl_DigestOf.K.I).den) : func impl_DigestOf.x impl_DigestOf.h impl_DigestOf.ps impl_DigestOf.rs impl_DigestOf.vs impl_DigestOf.K.I impl_DigestOf.K.O impl_DigestOf.c k x = impl_DigestOf.K.run k x := by
  show _ = impl_DigestOf.f k x
  kernel_rfl
theorem impl_DigestOf.ok : CtrOk Try.prog 94 impl_DigestOf.K :=
  CtrOk.of (fn := Try.f94) (cd := impl_DigestOf.c) (cx := impl_DigestOf.x) (hs := impl_DigestOf.h) (by kernel_rfl) (by kernel_rfl) (by kernel_rfl) (by kernel_rfl) tt_ok (envOk_cons impl_firstState.ok (envOk_cons impl_padding.ok (envOk_cons impl_rounds.ok (envOk_nil)))) (by kernel_rfl) (by kernel_rfl) (by kernel_rfl) (by kernel_rfl) fun k x r h => (impl_DigestOf.eq k x).trans h
/-! impl.NextKeys -/
noncomputable def impl_NextKeys.c : Code := bodyOf Try.f41
def impl_NextKeys.h : Nat → Hint := look ⟨[], [], []⟩ []
def impl_NextKeys.ps : List PK := [.one, .one]
def impl_NextKeys.rs : List RK := [.one true, .one true]
def impl_NextKeys.vs : List ResultVar := [.tmp 4, .tmp 5]
def impl_NextKeys.x : Cx := ⟨tt, look none [(94, some impl_DigestOf.K)]⟩
def impl_NextKeys.f (k : Nat) (a0 : ByteArray) (a1 : ByteArray) : Option (ByteArray × ByteArray) :=
  (bif decide (a0.size + (⟨#[107]⟩ : ByteArray).size ≤ 140737488351232) then (impl_DigestOf.f k (a0 ++ (⟨#[107]⟩ : ByteArray))).bind fun r1 => (bif decide (a1.size + (⟨#[107]⟩ : ByteArray).size ≤ 140737488351232) then (impl_DigestOf.f k (a1 ++ (⟨#[107]⟩ : ByteArray))).bind fun r2 => some (r1, r2) else none) else none)
def impl_NextKeys.K : Ctr := ⟨impl_NextKeys.ps, impl_NextKeys.rs, false, (.two .str .str), (.two .str .str), fun k x => impl_NextKeys.f k x.1 x.2⟩
theorem impl_NextKeys.eq (k : Nat) (x : (impl_NextKeys.K.I).den) : func impl_NextKeys.x impl_NextKeys.h impl_NextKeys.ps impl_NextKeys.rs impl_NextKeys.vs impl_NextKeys.K.I impl_NextKeys.K.O impl_NextKeys.c k x = impl_NextKeys.K.run k x := by
  show _ = impl_NextKeys.f k x.1 x.2
  kernel_rfl
theorem impl_NextKeys.ok : CtrOk Try.prog 41 impl_NextKeys.K :=
  CtrOk.of (fn := Try.f41) (cd := impl_NextKeys.c) (cx := impl_NextKeys.x) (hs := impl_NextKeys.h) (by kernel_rfl) (by kernel_rfl) (by kernel_rfl) (by kernel_rfl) tt_ok (envOk_cons impl_DigestOf.ok (envOk_nil)) (by kernel_rfl) (by kernel_rfl) (by kernel_rfl) (by kernel_rfl) fun k x r h => (impl_NextKeys.eq k x).trans h
/-! laws.FnExactNextKeys -/
noncomputable def laws_FnExactNextKeys.c : Code := bodyOf Try.f10
def laws_FnExactNextKeys.h : Nat → Hint := look ⟨[], [], []⟩ []
def laws_FnExactNextKeys.ps : List PK := [.one, .one]
def laws_FnExactNextKeys.rs : List RK := [.one true]
def laws_FnExactNextKeys.vs : List ResultVar := [.tmp 4]
def laws_FnExactNextKeys.x : Cx := ⟨tt, look none [(40, some spec_NextKeys.K), (41, some impl_NextKeys.K)]⟩
def laws_FnExactNextKeys.f (k : Nat) (a0 : ByteArray) (a1 : ByteArray) : Option (Bool) :=
  (bif (decide ((a0.size : Int) > (1048576 : Int))) then some true else (bif (decide ((a1.size : Int) > (1048576 : Int))) then some true else (spec_NextKeys.f k a0 a1).bind fun r1 => (impl_NextKeys.f k a0 a1).bind fun r2 => (bif (!(r2.1.toList == r1.1.toList)) then some false else (bif (!(r2.2.toList == r1.2.toList)) then some false else some true))))
def laws_FnExactNextKeys.K : Ctr := ⟨laws_FnExactNextKeys.ps, laws_FnExactNextKeys.rs, false, (.two .str .str), .bool, fun k x => laws_FnExactNextKeys.f k x.1 x.2⟩
theorem laws_FnExactNextKeys.eq (k : Nat) (x : (laws_FnExactNextKeys.K.I).den) : func laws_FnExactNextKeys.x laws_FnExactNextKeys.h laws_FnExactNextKeys.ps laws_FnExactNextKeys.rs laws_FnExactNextKeys.vs laws_FnExactNextKeys.K.I laws_FnExactNextKeys.K.O laws_FnExactNextKeys.c k x = laws_FnExactNextKeys.K.run k x := by
  show _ = laws_FnExactNextKeys.f k x.1 x.2
  kernel_rfl
theorem laws_FnExactNextKeys.ok : CtrOk Try.prog 10 laws_FnExactNextKeys.K :=
  CtrOk.of (fn := Try.f10) (cd := laws_FnExactNextKeys.c) (cx := laws_FnExactNextKeys.x) (hs := laws_FnExactNextKeys.h) (by kernel_rfl) (by kernel_rfl) (by kernel_rfl) (by kernel_rfl) tt_ok (envOk_cons spec_NextKeys.ok (envOk_cons impl_NextKeys.ok (envOk_nil))) (by kernel_rfl) (by kernel_rfl) (by kernel_rfl) (by kernel_rfl) fun k x r h => (laws_FnExactNextKeys.eq k x).trans h
end Go.Proofs.Ytpheniajdbbphaa.DI
