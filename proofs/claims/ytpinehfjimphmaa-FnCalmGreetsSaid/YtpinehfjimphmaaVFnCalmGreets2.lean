/- FnCalmGreets: functions as plain Lean, in the machine of values. -/
import Derived.Test.YtpinehfjimphmaaVFnCalmGreets1
namespace Go.Proofs.Ytpinehfjimphmaa.DI
open Go
set_option linter.unusedVariables false
/-! impl.wordsOf -/
noncomputable def impl_wordsOf.c : Code := bodyOf Try.f112
def impl_wordsOf.h : Nat → Hint := look ⟨[], [], []⟩ [(0, ⟨[0, 3, 4], [], [(.t 3, 464, 3, (.int .i64))]⟩)]
def impl_wordsOf.ps : List PK := [.one]
def impl_wordsOf.rs : List RK := [.one true]
def impl_wordsOf.vs : List ResultVar := [.tmp 2]
def impl_wordsOf.x : Cx := ⟨tt, look none [(68, some impl_ReadNumber.K)]⟩
def impl_wordsOf.s0 (k : Nat) (rec0 : (ByteArray × Int × (List (Int))) → Option ((List (Int)))) (p : (ByteArray × Int × (List (Int)))) : Option ((List (Int))) :=
  (bif (decide ((IntKind.i64.wrap (p.2.1 + (4 : Int))) ≤ (p.1.size : Int))) then (bif ((decide ((0 : Int) ≤ p.2.1)) && ((decide (p.2.1 ≤ (IntKind.i64.wrap (p.2.1 + (4 : Int))))) && (decide ((IntKind.i64.wrap (p.2.1 + (4 : Int))) ≤ (p.1.size : Int))))) then (impl_ReadNumber.f k (p.1.extract p.2.1.toNat (IntKind.i64.wrap (p.2.1 + (4 : Int))).toNat)).bind fun r1 => (bif decide ((p.2.2.length + [r1.1].length) * 8 ≤ 140737488355328) then rec0 (p.1, (IntKind.i64.wrap (p.2.1 + (4 : Int))), (p.2.2 ++ [r1.1])) else none) else none) else some p.2.2)
def impl_wordsOf.l0 (k : Nat) : Nat → (ByteArray × Int × (List (Int))) → Option ((List (Int)))
  | 0 => fun _ => none
  | j + 1 => impl_wordsOf.s0 k (impl_wordsOf.l0 k j)
def impl_wordsOf.S0 (p : (ByteArray × Int × (List (Int)))) : DS := ⟨tl [(0, .at (.str p.1)), (3, .at (.whole 464)), (4, .at (.int .i64 p.2.1))], lookO [(464, .row 3 (.int .i64) true p.2.2)]⟩
noncomputable def impl_wordsOf.D0 (k : Nat) (j : Nat) (p : (ByteArray × Int × (List (Int)))) : Option ((List (Int))) := loopK (normK [] (impl_wordsOf.h 0)) (runK impl_wordsOf.x k 0 [] impl_wordsOf.h 0 (sub impl_wordsOf.c [1, 1, 0, 1, 0, 0])) j (impl_wordsOf.S0 p) (kBlk 0 (kSeq (runK impl_wordsOf.x k 0 [] impl_wordsOf.h 0 (sub impl_wordsOf.c [1, 1, 1])) (fin tt impl_wordsOf.ps impl_wordsOf.rs impl_wordsOf.vs (.sl 3 (.int .i64)))))
theorem impl_wordsOf.D0_eq (k : Nat) : ∀ j, impl_wordsOf.D0 k j = impl_wordsOf.l0 k j := by
  intro j
  induction j with
  | zero => rfl
  | succ j ih =>
    show _ = impl_wordsOf.s0 k (impl_wordsOf.l0 k j)
    rw [← ih]
    funext p
    kernel_rfl
def impl_wordsOf.f (k : Nat) (a0 : ByteArray) : Option ((List (Int))) :=
  impl_wordsOf.l0 k k (a0, (0 : Int), ([] : List (Int)))
def impl_wordsOf.K : Ctr := ⟨impl_wordsOf.ps, impl_wordsOf.rs, false, .str, (.sl 3 (.int .i64)), fun k x => impl_wordsOf.f k x⟩
theorem impl_wordsOf.eq (k : Nat) (x : (impl_wordsOf.K.I).den) : func impl_wordsOf.x impl_wordsOf.h impl_wordsOf.ps impl_wordsOf.rs impl_wordsOf.vs impl_wordsOf.K.I impl_wordsOf.K.O impl_wordsOf.c k x = impl_wordsOf.K.run k x := by
  show _ = impl_wordsOf.f k x
  unfold impl_wordsOf.f
  rw [← impl_wordsOf.D0_eq k k]
  kernel_rfl
theorem impl_wordsOf.ok : CtrOk Try.prog 112 impl_wordsOf.K :=
  CtrOk.of (fn := Try.f112) (cd := impl_wordsOf.c) (cx := impl_wordsOf.x) (hs := impl_wordsOf.h) (by kernel_rfl) (by kernel_rfl) (by kernel_rfl) (by kernel_rfl) tt_ok (envOk_cons impl_ReadNumber.ok (envOk_nil)) (by kernel_rfl) (by kernel_rfl) (by kernel_rfl) (by kernel_rfl) fun k x r h => (impl_wordsOf.eq k x).trans h
/-! impl.turnRight -/
noncomputable def impl_turnRight.c : Code := bodyOf Try.f113
def impl_turnRight.h : Nat → Hint := look ⟨[], [], []⟩ []
def impl_turnRight.ps : List PK := [.one, .one]
def impl_turnRight.rs : List RK := [.one true]
def impl_turnRight.vs : List ResultVar := [.tmp 4]
def impl_turnRight.x : Cx := ⟨tt, look none []⟩
def impl_turnRight.f (_k : Nat) (a0 : Int) (a1 : Int) : Option (Int) :=
  (bif (decide (a1 < (0 : Int))) then none else (bif (decide ((IntKind.i64.wrap ((32 : Int) - a1)) < (0 : Int))) then none else some (IntKind.i64.wrap (((BitVec.ofInt IntKind.i64.bits (IntKind.i64.wrap (((BitVec.ofInt IntKind.i64.bits (a0.fdiv (2 ^ (min a1.toNat IntKind.i64.bits)))) ||| (BitVec.ofInt IntKind.i64.bits (IntKind.i64.wrap (a0 * 2 ^ (min (IntKind.i64.wrap ((32 : Int) - a1)).toNat IntKind.i64.bits))))).toNat : Int))) &&& (BitVec.ofInt IntKind.i64.bits (4294967295 : Int))).toNat : Int))))
def impl_turnRight.K : Ctr := ⟨impl_turnRight.ps, impl_turnRight.rs, false, (.two (.int .i64) (.int .i64)), (.int .i64), fun k x => impl_turnRight.f k x.1 x.2⟩
theorem impl_turnRight.eq (k : Nat) (x : (impl_turnRight.K.I).den) : func impl_turnRight.x impl_turnRight.h impl_turnRight.ps impl_turnRight.rs impl_turnRight.vs impl_turnRight.K.I impl_turnRight.K.O impl_turnRight.c k x = impl_turnRight.K.run k x := by
  show _ = impl_turnRight.f k x.1 x.2
  kernel_rfl
theorem impl_turnRight.ok : CtrOk Try.prog 113 impl_turnRight.K :=
  CtrOk.of (fn := Try.f113) (cd := impl_turnRight.c) (cx := impl_turnRight.x) (hs := impl_turnRight.h) (by kernel_rfl) (by kernel_rfl) (by kernel_rfl) (by kernel_rfl) tt_ok (envOk_nil) (by kernel_rfl) (by kernel_rfl) (by kernel_rfl) (by kernel_rfl) fun k x r h => (impl_turnRight.eq k x).trans h
/-! impl.expanded -/
noncomputable def impl_expanded.c : Code := bodyOf Try.f111
def impl_expanded.h : Nat → Hint := look ⟨[], [], []⟩ [(0, ⟨[3, 4], [], [(.t 3, 976, 3, (.int .i64))]⟩)]
def impl_expanded.ps : List PK := [.one]
def impl_expanded.rs : List RK := [.one true]
def impl_expanded.vs : List ResultVar := [.tmp 2]
def impl_expanded.x : Cx := ⟨tt, look none [(112, some impl_wordsOf.K), (113, some impl_turnRight.K)]⟩
def impl_expanded.s0 (k : Nat) (rec0 : (Int × (List (Int))) → Option ((List (Int)))) (p : (Int × (List (Int)))) : Option ((List (Int))) :=
  (bif (decide (p.1 < (64 : Int))) then (bif ((decide ((0 : Int) ≤ (IntKind.i64.wrap (p.1 - (15 : Int))))) && (decide ((IntKind.i64.wrap (p.1 - (15 : Int))) < (p.2.length : Int)))) then (p.2[(IntKind.i64.wrap (p.1 - (15 : Int))).toNat]?).bind fun x2 => (bif ((decide ((0 : Int) ≤ (IntKind.i64.wrap (p.1 - (2 : Int))))) && (decide ((IntKind.i64.wrap (p.1 - (2 : Int))) < (p.2.length : Int)))) then (p.2[(IntKind.i64.wrap (p.1 - (2 : Int))).toNat]?).bind fun x3 => (impl_turnRight.f k x2 (7 : Int)).bind fun r4 => (impl_turnRight.f k x2 (18 : Int)).bind fun r5 => (impl_turnRight.f k x3 (17 : Int)).bind fun r6 => (impl_turnRight.f k x3 (19 : Int)).bind fun r7 => (bif ((decide ((0 : Int) ≤ (IntKind.i64.wrap (p.1 - (7 : Int))))) && (decide ((IntKind.i64.wrap (p.1 - (7 : Int))) < (p.2.length : Int)))) then (p.2[(IntKind.i64.wrap (p.1 - (7 : Int))).toNat]?).bind fun x8 => (bif ((decide ((0 : Int) ≤ (IntKind.i64.wrap (p.1 - (16 : Int))))) && (decide ((IntKind.i64.wrap (p.1 - (16 : Int))) < (p.2.length : Int)))) then (p.2[(IntKind.i64.wrap (p.1 - (16 : Int))).toNat]?).bind fun x9 => (bif decide ((p.2.length + [(IntKind.i64.wrap (((BitVec.ofInt IntKind.i64.bits (IntKind.i64.wrap ((IntKind.i64.wrap ((IntKind.i64.wrap ((IntKind.i64.wrap (((BitVec.ofInt IntKind.i64.bits (IntKind.i64.wrap (((BitVec.ofInt IntKind.i64.bits r6) ^^^ (BitVec.ofInt IntKind.i64.bits r7)).toNat : Int))) ^^^ (BitVec.ofInt IntKind.i64.bits (x3.fdiv (2 ^ 10)))).toNat : Int)) + x8)) + (IntKind.i64.wrap (((BitVec.ofInt IntKind.i64.bits (IntKind.i64.wrap (((BitVec.ofInt IntKind.i64.bits r4) ^^^ (BitVec.ofInt IntKind.i64.bits r5)).toNat : Int))) ^^^ (BitVec.ofInt IntKind.i64.bits (x2.fdiv (2 ^ 3)))).toNat : Int)))) + x9))) &&& (BitVec.ofInt IntKind.i64.bits (4294967295 : Int))).toNat : Int))].length) * 8 ≤ 140737488355328) then rec0 ((IntKind.i64.wrap (p.1 + (1 : Int))), (p.2 ++ [(IntKind.i64.wrap (((BitVec.ofInt IntKind.i64.bits (IntKind.i64.wrap ((IntKind.i64.wrap ((IntKind.i64.wrap ((IntKind.i64.wrap (((BitVec.ofInt IntKind.i64.bits (IntKind.i64.wrap (((BitVec.ofInt IntKind.i64.bits r6) ^^^ (BitVec.ofInt IntKind.i64.bits r7)).toNat : Int))) ^^^ (BitVec.ofInt IntKind.i64.bits (x3.fdiv (2 ^ 10)))).toNat : Int)) + x8)) + (IntKind.i64.wrap (((BitVec.ofInt IntKind.i64.bits (IntKind.i64.wrap (((BitVec.ofInt IntKind.i64.bits r4) ^^^ (BitVec.ofInt IntKind.i64.bits r5)).toNat : Int))) ^^^ (BitVec.ofInt IntKind.i64.bits (x2.fdiv (2 ^ 3)))).toNat : Int)))) + x9))) &&& (BitVec.ofInt IntKind.i64.bits (4294967295 : Int))).toNat : Int))])) else none) else none) else none) else none) else none) else some p.2)
def impl_expanded.l0 (k : Nat) : Nat → (Int × (List (Int))) → Option ((List (Int)))
  | 0 => fun _ => none
  | j + 1 => impl_expanded.s0 k (impl_expanded.l0 k j)
def impl_expanded.S0 (p : (Int × (List (Int)))) : DS := ⟨tl [(3, .at (.whole 976)), (4, .at (.int .i64 p.1))], lookO [(976, .row 3 (.int .i64) true p.2)]⟩
noncomputable def impl_expanded.D0 (k : Nat) (j : Nat) (p : (Int × (List (Int)))) : Option ((List (Int))) := loopK (normK [] (impl_expanded.h 0)) (runK impl_expanded.x k 0 [] impl_expanded.h 0 (sub impl_expanded.c [1, 1, 0, 1, 0, 0])) j (impl_expanded.S0 p) (kBlk 0 (kSeq (runK impl_expanded.x k 0 [] impl_expanded.h 0 (sub impl_expanded.c [1, 1, 1])) (fin tt impl_expanded.ps impl_expanded.rs impl_expanded.vs (.sl 3 (.int .i64)))))
theorem impl_expanded.D0_eq (k : Nat) : ∀ j, impl_expanded.D0 k j = impl_expanded.l0 k j := by
  intro j
  induction j with
  | zero => rfl
  | succ j ih =>
    show _ = impl_expanded.s0 k (impl_expanded.l0 k j)
    rw [← ih]
    funext p
    kernel_rfl
def impl_expanded.f (k : Nat) (a0 : ByteArray) : Option ((List (Int))) :=
  (impl_wordsOf.f k a0).bind fun r1 => impl_expanded.l0 k k ((16 : Int), r1)
def impl_expanded.K : Ctr := ⟨impl_expanded.ps, impl_expanded.rs, false, .str, (.sl 3 (.int .i64)), fun k x => impl_expanded.f k x⟩
theorem impl_expanded.eq (k : Nat) (x : (impl_expanded.K.I).den) : func impl_expanded.x impl_expanded.h impl_expanded.ps impl_expanded.rs impl_expanded.vs impl_expanded.K.I impl_expanded.K.O impl_expanded.c k x = impl_expanded.K.run k x := by
  show _ = impl_expanded.f k x
  unfold impl_expanded.f
  rw [← impl_expanded.D0_eq k k]
  kernel_rfl
theorem impl_expanded.ok : CtrOk Try.prog 111 impl_expanded.K :=
  CtrOk.of (fn := Try.f111) (cd := impl_expanded.c) (cx := impl_expanded.x) (hs := impl_expanded.h) (by kernel_rfl) (by kernel_rfl) (by kernel_rfl) (by kernel_rfl) tt_ok (envOk_cons impl_wordsOf.ok (envOk_cons impl_turnRight.ok (envOk_nil))) (by kernel_rfl) (by kernel_rfl) (by kernel_rfl) (by kernel_rfl) fun k x r h => (impl_expanded.eq k x).trans h
/-! impl.round -/
noncomputable def impl_round.c : Code := bodyOf Try.f102
def impl_round.h : Nat → Hint := look ⟨[], [], []⟩ [(0, ⟨[5, 6, 7, 8, 9, 10, 11, 12, 13, 14, 15, 52], [80], [(.t 6, 2368, 3, (.int .i64)), (.t 7, 2369, 3, (.int .i64))]⟩), (2, ⟨[7, 128, 129, 130], [], [(.t 7, 2368, 3, (.int .i64)), (.t 128, 2369, 3, (.int .i64))]⟩)]
def impl_round.ps : List PK := [.one, .one]
def impl_round.rs : List RK := [.one true]
def impl_round.vs : List ResultVar := [.tmp 4]
def impl_round.x : Cx := ⟨tt, look none [(110, some impl_constants.K), (111, some impl_expanded.K), (112, some impl_wordsOf.K), (113, some impl_turnRight.K), (103, some impl_wordsText.K)]⟩
def impl_round.s2 (k : Nat) (rec2 : (Int × Int × (List (Int)) × (List (Int))) → Option (ByteArray)) (p : (Int × Int × (List (Int)) × (List (Int)))) : Option (ByteArray) :=
  (bif (decide (p.2.1 < p.1)) then (bif ((decide ((0 : Int) ≤ p.2.1)) && (decide (p.2.1 < (p.2.2.2.length : Int)))) then (p.2.2.2[p.2.1.toNat]?).bind fun x20 => (bif ((decide ((0 : Int) ≤ p.2.1)) && (decide (p.2.1 < (p.2.2.1.length : Int)))) then (p.2.2.1[p.2.1.toNat]?).bind fun x21 => (bif ((decide ((0 : Int) ≤ p.2.1)) && (decide (p.2.1 < (p.2.2.1.length : Int)))) then (p.2.2.1[p.2.1.toNat]?).bind fun x22 => rec2 (p.1, (IntKind.i64.wrap (p.2.1 + (1 : Int))), (p.2.2.1.set p.2.1.toNat (IntKind.i64.wrap (((BitVec.ofInt IntKind.i64.bits (IntKind.i64.wrap (x21 + x20))) &&& (BitVec.ofInt IntKind.i64.bits (4294967295 : Int))).toNat : Int))), p.2.2.2) else none) else none) else none) else (impl_wordsText.f k p.2.2.1).bind fun r23 => some r23)
def impl_round.l2 (k : Nat) : Nat → (Int × Int × (List (Int)) × (List (Int))) → Option (ByteArray)
  | 0 => fun _ => none
  | j + 1 => impl_round.s2 k (impl_round.l2 k j)
def impl_round.s0 (k : Nat) (rec0 : (Int × Int × Int × Int × Int × Int × Int × Int × Int × (List (Int)) × (List (Int)) × (List (Int))) → Option (ByteArray)) (i2 : (Int × Int × (List (Int)) × (List (Int))) → Option (ByteArray)) (p : (Int × Int × Int × Int × Int × Int × Int × Int × Int × (List (Int)) × (List (Int)) × (List (Int)))) : Option (ByteArray) :=
  (bif (decide (p.2.2.2.2.2.2.2.2.1 < (64 : Int))) then (impl_turnRight.f k p.2.2.2.2.1 (6 : Int)).bind fun r12 => (impl_turnRight.f k p.2.2.2.2.1 (11 : Int)).bind fun r13 => (impl_turnRight.f k p.2.2.2.2.1 (25 : Int)).bind fun r14 => (bif ((decide ((0 : Int) ≤ p.2.2.2.2.2.2.2.2.1)) && ((decide (p.2.2.2.2.2.2.2.2.1 < (p.2.2.2.2.2.2.2.2.2.1.length : Int))) && (decide (p.2.2.2.2.2.2.2.2.1 < (64 : Int))))) then (p.2.2.2.2.2.2.2.2.2.1[p.2.2.2.2.2.2.2.2.1.toNat]?).bind fun x15 => (bif ((decide ((0 : Int) ≤ p.2.2.2.2.2.2.2.2.1)) && (decide (p.2.2.2.2.2.2.2.2.1 < (p.2.2.2.2.2.2.2.2.2.2.1.length : Int)))) then (p.2.2.2.2.2.2.2.2.2.2.1[p.2.2.2.2.2.2.2.2.1.toNat]?).bind fun x16 => (impl_turnRight.f k p.1 (2 : Int)).bind fun r17 => (impl_turnRight.f k p.1 (13 : Int)).bind fun r18 => (impl_turnRight.f k p.1 (22 : Int)).bind fun r19 => rec0 ((IntKind.i64.wrap (((BitVec.ofInt IntKind.i64.bits (IntKind.i64.wrap ((IntKind.i64.wrap ((IntKind.i64.wrap ((IntKind.i64.wrap ((IntKind.i64.wrap (p.2.2.2.2.2.2.2.1 + (IntKind.i64.wrap (((BitVec.ofInt IntKind.i64.bits (IntKind.i64.wrap (((BitVec.ofInt IntKind.i64.bits r12) ^^^ (BitVec.ofInt IntKind.i64.bits r13)).toNat : Int))) ^^^ (BitVec.ofInt IntKind.i64.bits r14)).toNat : Int)))) + (IntKind.i64.wrap (((BitVec.ofInt IntKind.i64.bits (IntKind.i64.wrap (((BitVec.ofInt IntKind.i64.bits p.2.2.2.2.1) &&& (BitVec.ofInt IntKind.i64.bits p.2.2.2.2.2.1)).toNat : Int))) ^^^ (BitVec.ofInt IntKind.i64.bits (IntKind.i64.wrap (((BitVec.ofInt IntKind.i64.bits (IntKind.i64.wrap (((BitVec.ofInt IntKind.i64.bits (4294967295 : Int)) ^^^ (BitVec.ofInt IntKind.i64.bits p.2.2.2.2.1)).toNat : Int))) &&& (BitVec.ofInt IntKind.i64.bits p.2.2.2.2.2.2.1)).toNat : Int)))).toNat : Int)))) + x15)) + x16)) + (IntKind.i64.wrap ((IntKind.i64.wrap (((BitVec.ofInt IntKind.i64.bits (IntKind.i64.wrap (((BitVec.ofInt IntKind.i64.bits r17) ^^^ (BitVec.ofInt IntKind.i64.bits r18)).toNat : Int))) ^^^ (BitVec.ofInt IntKind.i64.bits r19)).toNat : Int)) + (IntKind.i64.wrap (((BitVec.ofInt IntKind.i64.bits (IntKind.i64.wrap (((BitVec.ofInt IntKind.i64.bits (IntKind.i64.wrap (((BitVec.ofInt IntKind.i64.bits p.1) &&& (BitVec.ofInt IntKind.i64.bits p.2.1)).toNat : Int))) ^^^ (BitVec.ofInt IntKind.i64.bits (IntKind.i64.wrap (((BitVec.ofInt IntKind.i64.bits p.1) &&& (BitVec.ofInt IntKind.i64.bits p.2.2.1)).toNat : Int)))).toNat : Int))) ^^^ (BitVec.ofInt IntKind.i64.bits (IntKind.i64.wrap (((BitVec.ofInt IntKind.i64.bits p.2.1) &&& (BitVec.ofInt IntKind.i64.bits p.2.2.1)).toNat : Int)))).toNat : Int))))))) &&& (BitVec.ofInt IntKind.i64.bits (4294967295 : Int))).toNat : Int)), p.1, p.2.1, p.2.2.1, (IntKind.i64.wrap (((BitVec.ofInt IntKind.i64.bits (IntKind.i64.wrap (p.2.2.2.1 + (IntKind.i64.wrap ((IntKind.i64.wrap ((IntKind.i64.wrap ((IntKind.i64.wrap (p.2.2.2.2.2.2.2.1 + (IntKind.i64.wrap (((BitVec.ofInt IntKind.i64.bits (IntKind.i64.wrap (((BitVec.ofInt IntKind.i64.bits r12) ^^^ (BitVec.ofInt IntKind.i64.bits r13)).toNat : Int))) ^^^ (BitVec.ofInt IntKind.i64.bits r14)).toNat : Int)))) + (IntKind.i64.wrap (((BitVec.ofInt IntKind.i64.bits (IntKind.i64.wrap (((BitVec.ofInt IntKind.i64.bits p.2.2.2.2.1) &&& (BitVec.ofInt IntKind.i64.bits p.2.2.2.2.2.1)).toNat : Int))) ^^^ (BitVec.ofInt IntKind.i64.bits (IntKind.i64.wrap (((BitVec.ofInt IntKind.i64.bits (IntKind.i64.wrap (((BitVec.ofInt IntKind.i64.bits (4294967295 : Int)) ^^^ (BitVec.ofInt IntKind.i64.bits p.2.2.2.2.1)).toNat : Int))) &&& (BitVec.ofInt IntKind.i64.bits p.2.2.2.2.2.2.1)).toNat : Int)))).toNat : Int)))) + x15)) + x16))))) &&& (BitVec.ofInt IntKind.i64.bits (4294967295 : Int))).toNat : Int)), p.2.2.2.2.1, p.2.2.2.2.2.1, p.2.2.2.2.2.2.1, (IntKind.i64.wrap (p.2.2.2.2.2.2.2.2.1 + (1 : Int))), p.2.2.2.2.2.2.2.2.2.1, p.2.2.2.2.2.2.2.2.2.2.1, p.2.2.2.2.2.2.2.2.2.2.2) else none) else none) else i2 (([p.1, p.2.1, p.2.2.1, p.2.2.2.1, p.2.2.2.2.1, p.2.2.2.2.2.1, p.2.2.2.2.2.2.1, p.2.2.2.2.2.2.2.1].length : Int), (0 : Int), p.2.2.2.2.2.2.2.2.2.2.2, [p.1, p.2.1, p.2.2.1, p.2.2.2.1, p.2.2.2.2.1, p.2.2.2.2.2.1, p.2.2.2.2.2.2.1, p.2.2.2.2.2.2.2.1]))
def impl_round.l0 (k : Nat) : Nat → (Int × Int × Int × Int × Int × Int × Int × Int × Int × (List (Int)) × (List (Int)) × (List (Int))) → Option (ByteArray)
  | 0 => fun _ => none
  | j + 1 => impl_round.s0 k (impl_round.l0 k j) (impl_round.l2 k k)
def impl_round.S2 (p : (Int × Int × (List (Int)) × (List (Int)))) : DS := ⟨tl [(7, .at (.whole 2368)), (128, .at (.whole 2369)), (129, .at (.int .i64 p.1)), (130, .at (.int .i64 p.2.1))], lookO [(2368, .row 3 (.int .i64) true p.2.2.1), (2369, .row 3 (.int .i64) true p.2.2.2)]⟩
def impl_round.S0 (p : (Int × Int × Int × Int × Int × Int × Int × Int × Int × (List (Int)) × (List (Int)) × (List (Int)))) : DS := ⟨tl [(5, .at (.eptr 80 0 0)), (6, .at (.whole 2368)), (7, .at (.whole 2369)), (8, .at (.int .i64 p.1)), (9, .at (.int .i64 p.2.1)), (10, .at (.int .i64 p.2.2.1)), (11, .at (.int .i64 p.2.2.2.1)), (12, .at (.int .i64 p.2.2.2.2.1)), (13, .at (.int .i64 p.2.2.2.2.2.1)), (14, .at (.int .i64 p.2.2.2.2.2.2.1)), (15, .at (.int .i64 p.2.2.2.2.2.2.2.1)), (52, .at (.int .i64 p.2.2.2.2.2.2.2.2.1))], lookO [(80, .row 124 (.int .i64) true p.2.2.2.2.2.2.2.2.2.1), (2368, .row 3 (.int .i64) true p.2.2.2.2.2.2.2.2.2.2.1), (2369, .row 3 (.int .i64) true p.2.2.2.2.2.2.2.2.2.2.2)]⟩
noncomputable def impl_round.D2 (k : Nat) (j : Nat) (p : (Int × Int × (List (Int)) × (List (Int)))) : Option (ByteArray) := loopK (normK [] (impl_round.h 2)) (runK impl_round.x k 0 [] impl_round.h 2 (sub impl_round.c [1, 1, 1, 1, 1, 1, 0, 1, 0, 0])) j (impl_round.S2 p) (kBlk 2 (kSeq (runK impl_round.x k 0 [] impl_round.h 0 (sub impl_round.c [1, 1, 1, 1, 1, 1, 1])) (fin tt impl_round.ps impl_round.rs impl_round.vs .str)))
noncomputable def impl_round.D0 (k : Nat) (j : Nat) (p : (Int × Int × Int × Int × Int × Int × Int × Int × Int × (List (Int)) × (List (Int)) × (List (Int)))) : Option (ByteArray) := loopK (normK [] (impl_round.h 0)) (runK impl_round.x k 0 [] impl_round.h 0 (sub impl_round.c [1, 1, 1, 1, 1, 0, 1, 0, 0])) j (impl_round.S0 p) (kBlk 0 (kSeq (runK impl_round.x k 0 [] impl_round.h 0 (sub impl_round.c [1, 1, 1, 1, 1, 1])) (fin tt impl_round.ps impl_round.rs impl_round.vs .str)))
theorem impl_round.D2_eq (k : Nat) : ∀ j, impl_round.D2 k j = impl_round.l2 k j := by
  intro j
  induction j with
  | zero => rfl
  | succ j ih =>
    show _ = impl_round.s2 k (impl_round.l2 k j)
    rw [← ih]
    funext p
    kernel_rfl
theorem impl_round.D0_eq (k : Nat) : ∀ j, impl_round.D0 k j = impl_round.l0 k j := by
  intro j
  induction j with
  | zero => rfl
  | succ j ih =>
    show _ = impl_round.s0 k (impl_round.l0 k j) (impl_round.l2 k k)
    rw [← ih, ← impl_round.D2_eq k k]
    funext p
    kernel_rfl
def impl_round.f (k : Nat) (a0 : ByteArray) (a1 : ByteArray) : Option (ByteArray) :=
  (impl_constants.f k).bind fun r1 => (impl_expanded.f k a1).bind fun r2 => (impl_wordsOf.f k a0).bind fun r3 => (bif (true && (decide ((0 : Int) < (r3.length : Int)))) then (r3[0]?).bind fun x4 => (bif (true && (decide ((1 : Int) < (r3.length : Int)))) then (r3[1]?).bind fun x5 => (bif (true && (decide ((2 : Int) < (r3.length : Int)))) then (r3[2]?).bind fun x6 => (bif (true && (decide ((3 : Int) < (r3.length : Int)))) then (r3[3]?).bind fun x7 => (bif (true && (decide ((4 : Int) < (r3.length : Int)))) then (r3[4]?).bind fun x8 => (bif (true && (decide ((5 : Int) < (r3.length : Int)))) then (r3[5]?).bind fun x9 => (bif (true && (decide ((6 : Int) < (r3.length : Int)))) then (r3[6]?).bind fun x10 => (bif (true && (decide ((7 : Int) < (r3.length : Int)))) then (r3[7]?).bind fun x11 => impl_round.l0 k k (x4, x5, x6, x7, x8, x9, x10, x11, (0 : Int), [r1.1, r1.2.1, r1.2.2.1, r1.2.2.2.1, r1.2.2.2.2.1, r1.2.2.2.2.2.1, r1.2.2.2.2.2.2.1, r1.2.2.2.2.2.2.2.1, r1.2.2.2.2.2.2.2.2.1, r1.2.2.2.2.2.2.2.2.2.1, r1.2.2.2.2.2.2.2.2.2.2.1, r1.2.2.2.2.2.2.2.2.2.2.2.1, r1.2.2.2.2.2.2.2.2.2.2.2.2.1, r1.2.2.2.2.2.2.2.2.2.2.2.2.2.1, r1.2.2.2.2.2.2.2.2.2.2.2.2.2.2.1, r1.2.2.2.2.2.2.2.2.2.2.2.2.2.2.2.1, r1.2.2.2.2.2.2.2.2.2.2.2.2.2.2.2.2.1, r1.2.2.2.2.2.2.2.2.2.2.2.2.2.2.2.2.2.1, r1.2.2.2.2.2.2.2.2.2.2.2.2.2.2.2.2.2.2.1, r1.2.2.2.2.2.2.2.2.2.2.2.2.2.2.2.2.2.2.2.1, r1.2.2.2.2.2.2.2.2.2.2.2.2.2.2.2.2.2.2.2.2.1, r1.2.2.2.2.2.2.2.2.2.2.2.2.2.2.2.2.2.2.2.2.2.1, r1.2.2.2.2.2.2.2.2.2.2.2.2.2.2.2.2.2.2.2.2.2.2.1, r1.2.2.2.2.2.2.2.2.2.2.2.2.2.2.2.2.2.2.2.2.2.2.2.1, r1.2.2.2.2.2.2.2.2.2.2.2.2.2.2.2.2.2.2.2.2.2.2.2.2.1, r1.2.2.2.2.2.2.2.2.2.2.2.2.2.2.2.2.2.2.2.2.2.2.2.2.2.1, r1.2.2.2.2.2.2.2.2.2.2.2.2.2.2.2.2.2.2.2.2.2.2.2.2.2.2.1, r1.2.2.2.2.2.2.2.2.2.2.2.2.2.2.2.2.2.2.2.2.2.2.2.2.2.2.2.1, r1.2.2.2.2.2.2.2.2.2.2.2.2.2.2.2.2.2.2.2.2.2.2.2.2.2.2.2.2.1, r1.2.2.2.2.2.2.2.2.2.2.2.2.2.2.2.2.2.2.2.2.2.2.2.2.2.2.2.2.2.1, r1.2.2.2.2.2.2.2.2.2.2.2.2.2.2.2.2.2.2.2.2.2.2.2.2.2.2.2.2.2.2.1, r1.2.2.2.2.2.2.2.2.2.2.2.2.2.2.2.2.2.2.2.2.2.2.2.2.2.2.2.2.2.2.2.1, r1.2.2.2.2.2.2.2.2.2.2.2.2.2.2.2.2.2.2.2.2.2.2.2.2.2.2.2.2.2.2.2.2.1, r1.2.2.2.2.2.2.2.2.2.2.2.2.2.2.2.2.2.2.2.2.2.2.2.2.2.2.2.2.2.2.2.2.2.1, r1.2.2.2.2.2.2.2.2.2.2.2.2.2.2.2.2.2.2.2.2.2.2.2.2.2.2.2.2.2.2.2.2.2.2.1, r1.2.2.2.2.2.2.2.2.2.2.2.2.2.2.2.2.2.2.2.2.2.2.2.2.2.2.2.2.2.2.2.2.2.2.2.1, r1.2.2.2.2.2.2.2.2.2.2.2.2.2.2.2.2.2.2.2.2.2.2.2.2.2.2.2.2.2.2.2.2.2.2.2.2.1, r1.2.2.2.2.2.2.2.2.2.2.2.2.2.2.2.2.2.2.2.2.2.2.2.2.2.2.2.2.2.2.2.2.2.2.2.2.2.1, r1.2.2.2.2.2.2.2.2.2.2.2.2.2.2.2.2.2.2.2.2.2.2.2.2.2.2.2.2.2.2.2.2.2.2.2.2.2.2.1, r1.2.2.2.2.2.2.2.2.2.2.2.2.2.2.2.2.2.2.2.2.2.2.2.2.2.2.2.2.2.2.2.2.2.2.2.2.2.2.2.1, r1.2.2.2.2.2.2.2.2.2.2.2.2.2.2.2.2.2.2.2.2.2.2.2.2.2.2.2.2.2.2.2.2.2.2.2.2.2.2.2.2.1, r1.2.2.2.2.2.2.2.2.2.2.2.2.2.2.2.2.2.2.2.2.2.2.2.2.2.2.2.2.2.2.2.2.2.2.2.2.2.2.2.2.2.1, r1.2.2.2.2.2.2.2.2.2.2.2.2.2.2.2.2.2.2.2.2.2.2.2.2.2.2.2.2.2.2.2.2.2.2.2.2.2.2.2.2.2.2.1, r1.2.2.2.2.2.2.2.2.2.2.2.2.2.2.2.2.2.2.2.2.2.2.2.2.2.2.2.2.2.2.2.2.2.2.2.2.2.2.2.2.2.2.2.1, r1.2.2.2.2.2.2.2.2.2.2.2.2.2.2.2.2.2.2.2.2.2.2.2.2.2.2.2.2.2.2.2.2.2.2.2.2.2.2.2.2.2.2.2.2.1, r1.2.2.2.2.2.2.2.2.2.2.2.2.2.2.2.2.2.2.2.2.2.2.2.2.2.2.2.2.2.2.2.2.2.2.2.2.2.2.2.2.2.2.2.2.2.1, r1.2.2.2.2.2.2.2.2.2.2.2.2.2.2.2.2.2.2.2.2.2.2.2.2.2.2.2.2.2.2.2.2.2.2.2.2.2.2.2.2.2.2.2.2.2.2.1, r1.2.2.2.2.2.2.2.2.2.2.2.2.2.2.2.2.2.2.2.2.2.2.2.2.2.2.2.2.2.2.2.2.2.2.2.2.2.2.2.2.2.2.2.2.2.2.2.1, r1.2.2.2.2.2.2.2.2.2.2.2.2.2.2.2.2.2.2.2.2.2.2.2.2.2.2.2.2.2.2.2.2.2.2.2.2.2.2.2.2.2.2.2.2.2.2.2.2.1, r1.2.2.2.2.2.2.2.2.2.2.2.2.2.2.2.2.2.2.2.2.2.2.2.2.2.2.2.2.2.2.2.2.2.2.2.2.2.2.2.2.2.2.2.2.2.2.2.2.2.1, r1.2.2.2.2.2.2.2.2.2.2.2.2.2.2.2.2.2.2.2.2.2.2.2.2.2.2.2.2.2.2.2.2.2.2.2.2.2.2.2.2.2.2.2.2.2.2.2.2.2.2.1, r1.2.2.2.2.2.2.2.2.2.2.2.2.2.2.2.2.2.2.2.2.2.2.2.2.2.2.2.2.2.2.2.2.2.2.2.2.2.2.2.2.2.2.2.2.2.2.2.2.2.2.2.1, r1.2.2.2.2.2.2.2.2.2.2.2.2.2.2.2.2.2.2.2.2.2.2.2.2.2.2.2.2.2.2.2.2.2.2.2.2.2.2.2.2.2.2.2.2.2.2.2.2.2.2.2.2.1, r1.2.2.2.2.2.2.2.2.2.2.2.2.2.2.2.2.2.2.2.2.2.2.2.2.2.2.2.2.2.2.2.2.2.2.2.2.2.2.2.2.2.2.2.2.2.2.2.2.2.2.2.2.2.1, r1.2.2.2.2.2.2.2.2.2.2.2.2.2.2.2.2.2.2.2.2.2.2.2.2.2.2.2.2.2.2.2.2.2.2.2.2.2.2.2.2.2.2.2.2.2.2.2.2.2.2.2.2.2.2.1, r1.2.2.2.2.2.2.2.2.2.2.2.2.2.2.2.2.2.2.2.2.2.2.2.2.2.2.2.2.2.2.2.2.2.2.2.2.2.2.2.2.2.2.2.2.2.2.2.2.2.2.2.2.2.2.2.1, r1.2.2.2.2.2.2.2.2.2.2.2.2.2.2.2.2.2.2.2.2.2.2.2.2.2.2.2.2.2.2.2.2.2.2.2.2.2.2.2.2.2.2.2.2.2.2.2.2.2.2.2.2.2.2.2.2.1, r1.2.2.2.2.2.2.2.2.2.2.2.2.2.2.2.2.2.2.2.2.2.2.2.2.2.2.2.2.2.2.2.2.2.2.2.2.2.2.2.2.2.2.2.2.2.2.2.2.2.2.2.2.2.2.2.2.2.1, r1.2.2.2.2.2.2.2.2.2.2.2.2.2.2.2.2.2.2.2.2.2.2.2.2.2.2.2.2.2.2.2.2.2.2.2.2.2.2.2.2.2.2.2.2.2.2.2.2.2.2.2.2.2.2.2.2.2.2.1, r1.2.2.2.2.2.2.2.2.2.2.2.2.2.2.2.2.2.2.2.2.2.2.2.2.2.2.2.2.2.2.2.2.2.2.2.2.2.2.2.2.2.2.2.2.2.2.2.2.2.2.2.2.2.2.2.2.2.2.2.1, r1.2.2.2.2.2.2.2.2.2.2.2.2.2.2.2.2.2.2.2.2.2.2.2.2.2.2.2.2.2.2.2.2.2.2.2.2.2.2.2.2.2.2.2.2.2.2.2.2.2.2.2.2.2.2.2.2.2.2.2.2.1, r1.2.2.2.2.2.2.2.2.2.2.2.2.2.2.2.2.2.2.2.2.2.2.2.2.2.2.2.2.2.2.2.2.2.2.2.2.2.2.2.2.2.2.2.2.2.2.2.2.2.2.2.2.2.2.2.2.2.2.2.2.2.1, r1.2.2.2.2.2.2.2.2.2.2.2.2.2.2.2.2.2.2.2.2.2.2.2.2.2.2.2.2.2.2.2.2.2.2.2.2.2.2.2.2.2.2.2.2.2.2.2.2.2.2.2.2.2.2.2.2.2.2.2.2.2.2.1, r1.2.2.2.2.2.2.2.2.2.2.2.2.2.2.2.2.2.2.2.2.2.2.2.2.2.2.2.2.2.2.2.2.2.2.2.2.2.2.2.2.2.2.2.2.2.2.2.2.2.2.2.2.2.2.2.2.2.2.2.2.2.2.2], r2, r3) else none) else none) else none) else none) else none) else none) else none) else none)
def impl_round.K : Ctr := ⟨impl_round.ps, impl_round.rs, false, (.two .str .str), .str, fun k x => impl_round.f k x.1 x.2⟩
theorem impl_round.eq (k : Nat) (x : (impl_round.K.I).den) : func impl_round.x impl_round.h impl_round.ps impl_round.rs impl_round.vs impl_round.K.I impl_round.K.O impl_round.c k x = impl_round.K.run k x := by
  show _ = impl_round.f k x.1 x.2
  unfold impl_round.f
  rw [← impl_round.D0_eq k k]
  kernel_rfl
theorem impl_round.ok : CtrOk Try.prog 102 impl_round.K :=
  CtrOk.of (fn := Try.f102) (cd := impl_round.c) (cx := impl_round.x) (hs := impl_round.h) (by kernel_rfl) (by kernel_rfl) (by kernel_rfl) (by kernel_rfl) tt_ok (envOk_cons impl_constants.ok (envOk_cons impl_expanded.ok (envOk_cons impl_wordsOf.ok (envOk_cons impl_turnRight.ok (envOk_cons impl_wordsText.ok (envOk_nil)))))) (by kernel_rfl) (by kernel_rfl) (by kernel_rfl) (by kernel_rfl) fun k x r h => (impl_round.eq k x).trans h
/-! impl.rounds -/
noncomputable def impl_rounds.c : Code := bodyOf Try.f91
def impl_rounds.h : Nat → Hint := look ⟨[], [], []⟩ [(0, ⟨[0, 1], [], []⟩)]
def impl_rounds.ps : List PK := [.one, .one]
def impl_rounds.rs : List RK := [.one true, .one true]
def impl_rounds.vs : List ResultVar := [.tmp 4, .tmp 5]
def impl_rounds.x : Cx := ⟨tt, look none [(102, some impl_round.K)]⟩
def impl_rounds.s0 (k : Nat) (rec0 : (ByteArray × ByteArray) → Option (ByteArray × ByteArray)) (p : (ByteArray × ByteArray)) : Option (ByteArray × ByteArray) :=
  (bif (decide ((p.2.size : Int) ≥ (64 : Int))) then (bif (true && (decide ((64 : Int) ≤ (p.2.size : Int)))) then (impl_round.f k p.1 (p.2.extract 0 64)).bind fun r1 => (bif (true && (decide ((64 : Int) ≤ (p.2.size : Int)))) then rec0 (r1, (p.2.extract 64 p.2.size)) else none) else none) else some (p.1, p.2))
def impl_rounds.l0 (k : Nat) : Nat → (ByteArray × ByteArray) → Option (ByteArray × ByteArray)
  | 0 => fun _ => none
  | j + 1 => impl_rounds.s0 k (impl_rounds.l0 k j)
def impl_rounds.S0 (p : (ByteArray × ByteArray)) : DS := ⟨tl [(0, .at (.str p.1)), (1, .at (.str p.2))], lookO []⟩
noncomputable def impl_rounds.D0 (k : Nat) (j : Nat) (p : (ByteArray × ByteArray)) : Option (ByteArray × ByteArray) := loopK (normK [] (impl_rounds.h 0)) (runK impl_rounds.x k 0 [] impl_rounds.h 0 (sub impl_rounds.c [1, 0, 0, 0])) j (impl_rounds.S0 p) (kBlk 0 (kSeq (runK impl_rounds.x k 0 [] impl_rounds.h 0 (sub impl_rounds.c [1, 1])) (fin tt impl_rounds.ps impl_rounds.rs impl_rounds.vs (.two .str .str))))
theorem impl_rounds.D0_eq (k : Nat) : ∀ j, impl_rounds.D0 k j = impl_rounds.l0 k j := by
  intro j
  induction j with
  | zero => rfl
  | succ j ih =>
    show _ = impl_rounds.s0 k (impl_rounds.l0 k j)
    rw [← ih]
    funext p
    kernel_rfl
def impl_rounds.f (k : Nat) (a0 : ByteArray) (a1 : ByteArray) : Option (ByteArray × ByteArray) :=
  impl_rounds.l0 k k (a0, a1)
def impl_rounds.K : Ctr := ⟨impl_rounds.ps, impl_rounds.rs, false, (.two .str .str), (.two .str .str), fun k x => impl_rounds.f k x.1 x.2⟩
theorem impl_rounds.eq (k : Nat) (x : (impl_rounds.K.I).den) : func impl_rounds.x impl_rounds.h impl_rounds.ps impl_rounds.rs impl_rounds.vs impl_rounds.K.I impl_rounds.K.O impl_rounds.c k x = impl_rounds.K.run k x := by
  show _ = impl_rounds.f k x.1 x.2
  unfold impl_rounds.f
  rw [← impl_rounds.D0_eq k k]
  kernel_rfl
theorem impl_rounds.ok : CtrOk Try.prog 91 impl_rounds.K :=
  CtrOk.of (fn := Try.f91) (cd := impl_rounds.c) (cx := impl_rounds.x) (hs := impl_rounds.h) (by kernel_rfl) (by kernel_rfl) (by kernel_rfl) (by kernel_rfl) tt_ok (envOk_cons impl_round.ok (envOk_nil)) (by kernel_rfl) (by kernel_rfl) (by kernel_rfl) (by kernel_rfl) fun k x r h => (impl_rounds.eq k x).trans h
/-! impl.DigestOf -/
noncomputable def impl_DigestOf.c : Code := bodyOf Try.f80
def impl_DigestOf.h : Nat → Hint := look ⟨[], [], []⟩ []
def impl_DigestOf.ps : List PK := [.one]
def impl_DigestOf.rs : List RK := [.one true]
def impl_DigestOf.vs : List ResultVar := [.tmp 2]
def impl_DigestOf.x : Cx := ⟨tt, look none [(92, some impl_firstState.K), (93, some impl_padding.K), (91, some impl_rounds.K)]⟩
def impl_DigestOf.f (k : Nat) (a0 : ByteArray) : Option (ByteArray) :=
  (impl_firstState.f k).bind fun r1 => (impl_padding.f k (a0.size : Int)).bind fun r2 => (bif decide (a0.size + r2.size ≤ 140737488351232) then (impl_rounds.f k r1 (a0 ++ r2)).bind fun r3 => some r3.1 else none)
def impl_DigestOf.K : Ctr := ⟨impl_DigestOf.ps, impl_DigestOf.rs, false, .str, .str, fun k x => impl_DigestOf.f k x⟩
theorem impl_DigestOf.eq (k : Nat) (x : (impl_DigestOf.K.I).den) : func impl_DigestOf.x impl_DigestOf.h impl_DigestOf.ps impl_DigestOf.rs impl_DigestOf.vs impl_DigestOf.K.I impl_DigestOf.K.O impl_DigestOf.c k x = impl_DigestOf.K.run k x := by
  show _ = impl_DigestOf.f k x
  kernel_rfl
theorem impl_DigestOf.ok : CtrOk Try.prog 80 impl_DigestOf.K :=
  CtrOk.of (fn := Try.f80) (cd := impl_DigestOf.c) (cx := impl_DigestOf.x) (hs := impl_DigestOf.h) (by kernel_rfl) (by kernel_rfl) (by kernel_rfl) (by kernel_rfl) tt_ok (envOk_cons impl_firstState.ok (envOk_cons impl_padding.ok (envOk_cons impl_rounds.ok (envOk_nil)))) (by kernel_rfl) (by kernel_rfl) (by kernel_rfl) (by kernel_rfl) fun k x r h => (impl_DigestOf.eq k x).trans h
/-! impl.digestNumber -/
noncomputable def impl_digestNumber.c : Code := bodyOf Try.f62
def impl_digestNumber.h : Nat → Hint := look ⟨[], [], []⟩ []
def impl_digestNumber.ps : List PK := [.one]
def impl_digestNumber.rs : List RK := [.one true]
def impl_digestNumber.vs : List ResultVar := [.tmp 2]
def impl_digestNumber.x : Cx := ⟨tt, look none [(80, some impl_DigestOf.K), (68, some impl_ReadNumber.K)]⟩
def impl_digestNumber.f (k : Nat) (a0 : ByteArray) : Option (Int) :=
  (impl_DigestOf.f k a0).bind fun r1 => (bif (true && (decide ((4 : Int) ≤ (r1.size : Int)))) then (impl_ReadNumber.f k (r1.extract 0 4)).bind fun r2 => some r2.1 else none)
def impl_digestNumber.K : Ctr := ⟨impl_digestNumber.ps, impl_digestNumber.rs, false, .str, (.int .i64), fun k x => impl_digestNumber.f k x⟩
theorem impl_digestNumber.eq (k : Nat) (x : (impl_digestNumber.K.I).den) : func impl_digestNumber.x impl_digestNumber.h impl_digestNumber.ps impl_digestNumber.rs impl_digestNumber.vs impl_digestNumber.K.I impl_digestNumber.K.O impl_digestNumber.c k x = impl_digestNumber.K.run k x := by
  show _ = impl_digestNumber.f k x
  kernel_rfl
theorem impl_digestNumber.ok : CtrOk Try.prog 62 impl_digestNumber.K :=
  CtrOk.of (fn := Try.f62) (cd := impl_digestNumber.c) (cx := impl_digestNumber.x) (hs := impl_digestNumber.h) (by kernel_rfl) (by kernel_rfl) (by kernel_rfl) (by kernel_rfl) tt_ok (envOk_cons impl_DigestOf.ok (envOk_cons impl_ReadNumber.ok (envOk_nil))) (by kernel_rfl) (by kernel_rfl) (by kernel_rfl) (by kernel_rfl) fun k x r h => (impl_digestNumber.eq k x).trans h
/-! impl.SecretOf -/
noncomputable def impl_SecretOf.c : Code := bodyOf Try.f36
def impl_SecretOf.h : Nat → Hint := look ⟨[], [], []⟩ []
def impl_SecretOf.ps : List PK := [.one]
def impl_SecretOf.rs : List RK := [.one true]
def impl_SecretOf.vs : List ResultVar := [.tmp 2]
def impl_SecretOf.x : Cx := ⟨tt, look none [(62, some impl_digestNumber.K)]⟩
def impl_SecretOf.f (k : Nat) (a0 : ByteArray) : Option (Int) :=
  (bif decide (a0.size + (⟨#[115]⟩ : ByteArray).size ≤ 140737488351232) then (impl_digestNumber.f k (a0 ++ (⟨#[115]⟩ : ByteArray))).bind fun r1 => some (IntKind.i64.wrap ((1 : Int) + (r1.tmod (1073741788 : Int)))) else none)
def impl_SecretOf.K : Ctr := ⟨impl_SecretOf.ps, impl_SecretOf.rs, false, .str, (.int .i64), fun k x => impl_SecretOf.f k x⟩
theorem impl_SecretOf.eq (k : Nat) (x : (impl_SecretOf.K.I).den) : func impl_SecretOf.x impl_SecretOf.h impl_SecretOf.ps impl_SecretOf.rs impl_SecretOf.vs impl_SecretOf.K.I impl_SecretOf.K.O impl_SecretOf.c k x = impl_SecretOf.K.run k x := by
  show _ = impl_SecretOf.f k x
  kernel_rfl
theorem impl_SecretOf.ok : CtrOk Try.prog 36 impl_SecretOf.K :=
  CtrOk.of (fn := Try.f36) (cd := impl_SecretOf.c) (cx := impl_SecretOf.x) (hs := impl_SecretOf.h) (by kernel_rfl) (by kernel_rfl) (by kernel_rfl) (by kernel_rfl) tt_ok (envOk_cons impl_digestNumber.ok (envOk_nil)) (by kernel_rfl) (by kernel_rfl) (by kernel_rfl) (by kernel_rfl) fun k x r h => (impl_SecretOf.eq k x).trans h
/-! impl.secretOk -/
noncomputable def impl_secretOk.c : Code := bodyOf Try.f58
def impl_secretOk.h : Nat → Hint := look ⟨[], [], []⟩ []
def impl_secretOk.ps : List PK := [.one]
def impl_secretOk.rs : List RK := [.one true]
def impl_secretOk.vs : List ResultVar := [.tmp 2]
def impl_secretOk.x : Cx := ⟨tt, look none [(34, some impl_within.K)]⟩
def impl_secretOk.f (k : Nat) (a0 : Int) : Option (Bool) :=
  (impl_within.f k a0 (1 : Int) (1073741788 : Int)).bind fun r1 => some r1
def impl_secretOk.K : Ctr := ⟨impl_secretOk.ps, impl_secretOk.rs, false, (.int .i64), .bool, fun k x => impl_secretOk.f k x⟩
theorem impl_secretOk.eq (k : Nat) (x : (impl_secretOk.K.I).den) : func impl_secretOk.x impl_secretOk.h impl_secretOk.ps impl_secretOk.rs impl_secretOk.vs impl_secretOk.K.I impl_secretOk.K.O impl_secretOk.c k x = impl_secretOk.K.run k x := by
  show _ = impl_secretOk.f k x
  kernel_rfl
theorem impl_secretOk.ok : CtrOk Try.prog 58 impl_secretOk.K :=
  CtrOk.of (fn := Try.f58) (cd := impl_secretOk.c) (cx := impl_secretOk.x) (hs := impl_secretOk.h) (by kernel_rfl) (by kernel_rfl) (by kernel_rfl) (by kernel_rfl) tt_ok (envOk_cons impl_within.ok (envOk_nil)) (by kernel_rfl) (by kernel_rfl) (by kernel_rfl) (by kernel_rfl) fun k x r h => (impl_secretOk.eq k x).trans h
/-! impl.inPrime -/
noncomputable def impl_inPrime.c : Code := bodyOf Try.f76
def impl_inPrime.h : Nat → Hint := look ⟨[], [], []⟩ []
def impl_inPrime.ps : List PK := [.one]
def impl_inPrime.rs : List RK := [.one true]
def impl_inPrime.vs : List ResultVar := [.tmp 2]
def impl_inPrime.x : Cx := ⟨tt, look none []⟩
def impl_inPrime.f (_k : Nat) (a0 : Int) : Option (Int) :=
  some ((IntKind.i64.wrap ((a0.tmod (2147483579 : Int)) + (2147483579 : Int))).tmod (2147483579 : Int))
def impl_inPrime.K : Ctr := ⟨impl_inPrime.ps, impl_inPrime.rs, false, (.int .i64), (.int .i64), fun k x => impl_inPrime.f k x⟩
theorem impl_inPrime.eq (k : Nat) (x : (impl_inPrime.K.I).den) : func impl_inPrime.x impl_inPrime.h impl_inPrime.ps impl_inPrime.rs impl_inPrime.vs impl_inPrime.K.I impl_inPrime.K.O impl_inPrime.c k x = impl_inPrime.K.run k x := by
  show _ = impl_inPrime.f k x
  kernel_rfl
theorem impl_inPrime.ok : CtrOk Try.prog 76 impl_inPrime.K :=
  CtrOk.of (fn := Try.f76) (cd := impl_inPrime.c) (cx := impl_inPrime.x) (hs := impl_inPrime.h) (by kernel_rfl) (by kernel_rfl) (by kernel_rfl) (by kernel_rfl) tt_ok (envOk_nil) (by kernel_rfl) (by kernel_rfl) (by kernel_rfl) (by kernel_rfl) fun k x r h => (impl_inPrime.eq k x).trans h
/-! impl.PowP -/
noncomputable def impl_PowP.c : Code := bodyOf Try.f59
def impl_PowP.h : Nat → Hint := look ⟨[], [], []⟩ [(0, ⟨[1, 5, 6], [], []⟩)]
def impl_PowP.ps : List PK := [.one, .one]
def impl_PowP.rs : List RK := [.one true]
def impl_PowP.vs : List ResultVar := [.tmp 4]
def impl_PowP.x : Cx := ⟨tt, look none [(34, some impl_within.K), (76, some impl_inPrime.K)]⟩
def impl_PowP.s0 (_k : Nat) (rec0 : (Int × Int × Int) → Option (Int)) (p : (Int × Int × Int)) : Option (Int) :=
  (bif (decide (p.1 > (0 : Int))) then (bif ((p.1.tmod (2 : Int)) == (1 : Int)) then rec0 ((IntKind.i64.wrap (p.1.tdiv (2 : Int))), ((IntKind.i64.wrap (p.2.1 * p.2.2)).tmod (2147483579 : Int)), ((IntKind.i64.wrap (p.2.2 * p.2.2)).tmod (2147483579 : Int))) else rec0 ((IntKind.i64.wrap (p.1.tdiv (2 : Int))), p.2.1, ((IntKind.i64.wrap (p.2.2 * p.2.2)).tmod (2147483579 : Int)))) else some p.2.1)
def impl_PowP.l0 (k : Nat) : Nat → (Int × Int × Int) → Option (Int)
  | 0 => fun _ => none
  | j + 1 => impl_PowP.s0 k (impl_PowP.l0 k j)
def impl_PowP.S0 (p : (Int × Int × Int)) : DS := ⟨tl [(1, .at (.int .i64 p.1)), (5, .at (.int .i64 p.2.1)), (6, .at (.int .i64 p.2.2))], lookO []⟩
noncomputable def impl_PowP.D0 (k : Nat) (j : Nat) (p : (Int × Int × Int)) : Option (Int) := loopK (normK [] (impl_PowP.h 0)) (runK impl_PowP.x k 0 [] impl_PowP.h 0 (sub impl_PowP.c [1, 1, 1, 0, 0, 0])) j (impl_PowP.S0 p) (kBlk 0 (kSeq (runK impl_PowP.x k 0 [] impl_PowP.h 0 (sub impl_PowP.c [1, 1, 1, 1])) (fin tt impl_PowP.ps impl_PowP.rs impl_PowP.vs (.int .i64))))
theorem impl_PowP.D0_eq (k : Nat) : ∀ j, impl_PowP.D0 k j = impl_PowP.l0 k j := by
  intro j
  induction j with
  | zero => rfl
  | succ j ih =>
    show _ = impl_PowP.s0 k (impl_PowP.l0 k j)
    rw [← ih]
    funext p
    kernel_rfl
def impl_PowP.f (k : Nat) (a0 : Int) (a1 : Int) : Option (Int) :=
  (impl_within.f k a1 (0 : Int) (2147483579 : Int)).bind fun r1 => (bif (!r1) then some (0 : Int) else (impl_inPrime.f k a0).bind fun r2 => impl_PowP.l0 k k (a1, (1 : Int), r2))
def impl_PowP.K : Ctr := ⟨impl_PowP.ps, impl_PowP.rs, false, (.two (.int .i64) (.int .i64)), (.int .i64), fun k x => impl_PowP.f k x.1 x.2⟩
theorem impl_PowP.eq (k : Nat) (x : (impl_PowP.K.I).den) : func impl_PowP.x impl_PowP.h impl_PowP.ps impl_PowP.rs impl_PowP.vs impl_PowP.K.I impl_PowP.K.O impl_PowP.c k x = impl_PowP.K.run k x := by
  show _ = impl_PowP.f k x.1 x.2
  unfold impl_PowP.f
  rw [← impl_PowP.D0_eq k k]
  kernel_rfl
theorem impl_PowP.ok : CtrOk Try.prog 59 impl_PowP.K :=
  CtrOk.of (fn := Try.f59) (cd := impl_PowP.c) (cx := impl_PowP.x) (hs := impl_PowP.h) (by kernel_rfl) (by kernel_rfl) (by kernel_rfl) (by kernel_rfl) tt_ok (envOk_cons impl_within.ok (envOk_cons impl_inPrime.ok (envOk_nil))) (by kernel_rfl) (by kernel_rfl) (by kernel_rfl) (by kernel_rfl) fun k x r h => (impl_PowP.eq k x).trans h
/-! impl.PublicOf -/
noncomputable def impl_PublicOf.c : Code := bodyOf Try.f30
def impl_PublicOf.h : Nat → Hint := look ⟨[], [], []⟩ []
def impl_PublicOf.ps : List PK := [.one]
def impl_PublicOf.rs : List RK := [.one true]
def impl_PublicOf.vs : List ResultVar := [.tmp 2]
def impl_PublicOf.x : Cx := ⟨tt, look none [(58, some impl_secretOk.K), (59, some impl_PowP.K)]⟩
def impl_PublicOf.f (k : Nat) (a0 : Int) : Option (Int) :=
  (impl_secretOk.f k a0).bind fun r1 => (bif (!r1) then some (0 : Int) else (impl_PowP.f k (4 : Int) a0).bind fun r2 => some r2)
def impl_PublicOf.K : Ctr := ⟨impl_PublicOf.ps, impl_PublicOf.rs, false, (.int .i64), (.int .i64), fun k x => impl_PublicOf.f k x⟩
theorem impl_PublicOf.eq (k : Nat) (x : (impl_PublicOf.K.I).den) : func impl_PublicOf.x impl_PublicOf.h impl_PublicOf.ps impl_PublicOf.rs impl_PublicOf.vs impl_PublicOf.K.I impl_PublicOf.K.O impl_PublicOf.c k x = impl_PublicOf.K.run k x := by
  show _ = impl_PublicOf.f k x
  kernel_rfl
theorem impl_PublicOf.ok : CtrOk Try.prog 30 impl_PublicOf.K :=
  CtrOk.of (fn := Try.f30) (cd := impl_PublicOf.c) (cx := impl_PublicOf.x) (hs := impl_PublicOf.h) (by kernel_rfl) (by kernel_rfl) (by kernel_rfl) (by kernel_rfl) tt_ok (envOk_cons impl_secretOk.ok (envOk_cons impl_PowP.ok (envOk_nil))) (by kernel_rfl) (by kernel_rfl) (by kernel_rfl) (by kernel_rfl) fun k x r h => (impl_PublicOf.eq k x).trans h
end Go.Proofs.Ytpinehfjimphmaa.DI
