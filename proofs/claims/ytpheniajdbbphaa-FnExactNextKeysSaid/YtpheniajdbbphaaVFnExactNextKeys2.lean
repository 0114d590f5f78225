/- FnExactNextKeys: functions as plain Lean, in the machine of values. -/
import Derived.Test.YtpheniajdbbphaaVFnExactNextKeys1
namespace Go.Proofs.Ytpheniajdbbphaa.DI
open Go
set_option linter.unusedVariables false
/-! spec.HashMore -/
noncomputable def spec_HashMore.c : Code := bodyOf Try.f114
def spec_HashMore.h : Nat → Hint := look ⟨[], [], []⟩ [(0, ⟨[1, 2, 4, 5, 6, 7, 8], [32, 64], [(.t 5, 880, 111, (.int .u32)), (.t 6, 881, 111, (.int .u32))]⟩)]
def spec_HashMore.ps : List PK := [.agg 3, .one]
def spec_HashMore.rs : List RK := [.agg 3 true]
def spec_HashMore.vs : List ResultVar := [.cell 4 132]
def spec_HashMore.x : Cx := ⟨tt, look none [(123, some spec_HasherOk.K), (124, some spec_l04Words.K), (125, some spec_l04K.K), (126, some spec_l04Round.K), (127, some spec_l04Bytes.K)]⟩
def spec_HashMore.s0 (k : Nat) (rec0 : (ByteArray × ByteArray × Int × ByteArray × ByteArray × Int × ByteArray × ByteArray × Int × (List (Int)) × (List (Int))) → Option (ByteArray × ByteArray × Int)) (p : (ByteArray × ByteArray × Int × ByteArray × ByteArray × Int × ByteArray × ByteArray × Int × (List (Int)) × (List (Int)))) : Option (ByteArray × ByteArray × Int) :=
  (bif (decide ((IntKind.i64.wrap (p.2.2.1 + (64 : Int))) ≤ (p.2.1.size : Int))) then (bif ((decide ((0 : Int) ≤ p.2.2.1)) && ((decide (p.2.2.1 ≤ (IntKind.i64.wrap (p.2.2.1 + (64 : Int))))) && (decide ((IntKind.i64.wrap (p.2.2.1 + (64 : Int))) ≤ (p.2.1.size : Int))))) then (spec_l04Round.f k p.2.2.2.2.2.2.2.2.2.1 p.2.2.2.2.2.2.2.2.2.2 (p.2.1.extract p.2.2.1.toNat (IntKind.i64.wrap (p.2.2.1 + (64 : Int))).toNat)).bind fun r4 => rec0 (p.1, p.2.1, (IntKind.i64.wrap (p.2.2.1 + (64 : Int))), p.2.2.2.1, p.2.2.2.2.1, p.2.2.2.2.2.1, p.2.2.2.2.2.2.1, p.2.2.2.2.2.2.2.1, p.2.2.2.2.2.2.2.2.1, r4, p.2.2.2.2.2.2.2.2.2.2) else none) else (spec_l04Bytes.f k p.2.2.2.2.2.2.2.2.2.1).bind fun r5 => (bif ((decide ((0 : Int) ≤ p.2.2.1)) && (decide (p.2.2.1 ≤ (p.2.1.size : Int)))) then some (r5, (p.2.1.extract p.2.2.1.toNat p.2.1.size), (IntKind.i64.wrap (p.2.2.2.2.2.1 + (p.1.size : Int)))) else none))
def spec_HashMore.l0 (k : Nat) : Nat → (ByteArray × ByteArray × Int × ByteArray × ByteArray × Int × ByteArray × ByteArray × Int × (List (Int)) × (List (Int))) → Option (ByteArray × ByteArray × Int)
  | 0 => fun _ => none
  | j + 1 => spec_HashMore.s0 k (spec_HashMore.l0 k j)
def spec_HashMore.S0 (p : (ByteArray × ByteArray × Int × ByteArray × ByteArray × Int × ByteArray × ByteArray × Int × (List (Int)) × (List (Int)))) : DS := ⟨tl [(1, .at (.str p.1)), (2, .at (.bptr 32 0)), (4, .at (.bptr 64 0)), (5, .at (.whole 880)), (6, .at (.whole 881)), (7, .at (.str p.2.1)), (8, .at (.int .i64 p.2.2.1))], lookO [(32, .box 132 [.str p.2.2.2.1, .str p.2.2.2.2.1, .int .i64 p.2.2.2.2.2.1]), (64, .box 132 [.str p.2.2.2.2.2.2.1, .str p.2.2.2.2.2.2.2.1, .int .i64 p.2.2.2.2.2.2.2.2.1]), (880, .row 111 (.int .u32) true p.2.2.2.2.2.2.2.2.2.1), (881, .row 111 (.int .u32) true p.2.2.2.2.2.2.2.2.2.2)]⟩
noncomputable def spec_HashMore.D0 (k : Nat) (j : Nat) (p : (ByteArray × ByteArray × Int × ByteArray × ByteArray × Int × ByteArray × ByteArray × Int × (List (Int)) × (List (Int)))) : Option (ByteArray × ByteArray × Int) := loopK (norm [] (spec_HashMore.h 0)) (runK spec_HashMore.x k 0 [] spec_HashMore.h 0 (sub spec_HashMore.c [1, 1, 1, 1, 1, 1, 0, 0, 0])) j (spec_HashMore.S0 p) (kBlk 0 (kSeq (runK spec_HashMore.x k 0 [] spec_HashMore.h 0 (sub spec_HashMore.c [1, 1, 1, 1, 1, 1, 1])) (fin tt spec_HashMore.ps spec_HashMore.rs spec_HashMore.vs (.two .str (.two .str (.int .i64))))))
theorem spec_HashMore.D0_eq (k : Nat) : ∀ j, spec_HashMore.D0 k j = spec_HashMore.l0 k j := by
  intro j
  induction j with
  | zero => rfl
  | succ j ih =>
    show _ = spec_HashMore.s0 k (spec_HashMore.l0 k j)
    rw [← ih]
    funext p
    kernel_rfl
def spec_HashMore.f (k : Nat) (a0_0 : ByteArray) (a0_1 : ByteArray) (a0_2 : Int) (a1 : ByteArray) : Option (ByteArray × ByteArray × Int) :=
  (spec_HasherOk.f k a0_0 a0_1 a0_2).bind fun r1 => (bif (!r1) then some (a0_0, a0_1, a0_2) else (bif (decide ((IntKind.i64.wrap (a0_2 + (a1.size : Int))) > (1000000000 : Int))) then some (a0_0, a0_1, a0_2) else (spec_l04Words.f k a0_0).bind fun r2 => (spec_l04K.f k).bind fun r3 => (bif decide (a0_1.size + a1.size ≤ 140737488351232) then spec_HashMore.l0 k k (a1, (a0_1 ++ a1), (0 : Int), a0_0, a0_1, a0_2, ByteArray.empty, ByteArray.empty, (0 : Int), r2, r3) else none)))
def spec_HashMore.K : Ctr := ⟨spec_HashMore.ps, spec_HashMore.rs, false, (.two .str (.two .str (.two (.int .i64) .str))), (.two .str (.two .str (.int .i64))), fun k x => spec_HashMore.f k x.1 x.2.1 x.2.2.1 x.2.2.2⟩
theorem spec_HashMore.eq (k : Nat) (x : (spec_HashMore.K.I).den) : func spec_HashMore.x spec_HashMore.h spec_HashMore.ps spec_HashMore.rs spec_HashMore.vs spec_HashMore.K.I spec_HashMore.K.O spec_HashMore.c k x = spec_HashMore.K.run k x := by
  show _ = spec_HashMore.f k x.1 x.2.1 x.2.2.1 x.2.2.2
  unfold spec_HashMore.f
  rw [← spec_HashMore.D0_eq k k]
  kernel_rfl
theorem spec_HashMore.ok : CtrOk Try.prog 114 spec_HashMore.K :=
  CtrOk.of (fn := Try.f114) (cd := spec_HashMore.c) (cx := spec_HashMore.x) (hs := spec_HashMore.h) (by kernel_rfl) (by kernel_rfl) (by kernel_rfl) (by kernel_rfl) tt_ok (envOk_cons spec_HasherOk.ok (envOk_cons spec_l04Words.ok (envOk_cons spec_l04K.ok (envOk_cons spec_l04Round.ok (envOk_cons spec_l04Bytes.ok (envOk_nil)))))) (by kernel_rfl) (by kernel_rfl) (by kernel_rfl) (by kernel_rfl) fun k x r h => (spec_HashMore.eq k x).trans h
/-! spec.HashEnd -/
noncomputable def spec_HashEnd.c : Code := bodyOf Try.f113
def spec_HashEnd.h : Nat → Hint := look ⟨[], [], []⟩ [(0, ⟨[1, 3], [16], [(.t 3, 1104, 5, (.int .u8))]⟩), (2, ⟨[1, 3, 4, 5], [16], [(.t 3, 1104, 5, (.int .u8))]⟩), (4, ⟨[1, 3, 4, 5, 6, 7], [16], [(.t 3, 1104, 5, (.int .u8))]⟩), (6, ⟨[3, 8, 9, 10], [], [(.t 3, 1104, 5, (.int .u8)), (.t 8, 1105, 111, (.int .u32)), (.t 9, 1106, 111, (.int .u32))]⟩)]
def spec_HashEnd.ps : List PK := [.agg 3]
def spec_HashEnd.rs : List RK := [.one true]
def spec_HashEnd.vs : List ResultVar := [.tmp 2]
def spec_HashEnd.x : Cx := ⟨tt, look none [(123, some spec_HasherOk.K), (124, some spec_l04Words.K), (125, some spec_l04K.K), (126, some spec_l04Round.K), (127, some spec_l04Bytes.K)]⟩
def spec_HashEnd.s4 (_k : Nat) (rec2 : (Int × Int × ByteArray × ByteArray × Int × (List (Int))) → Option (ByteArray)) (rec4 : (Int × Int × Int × Int × ByteArray × ByteArray × Int × (List (Int))) → Option (ByteArray)) (p : (Int × Int × Int × Int × ByteArray × ByteArray × Int × (List (Int)))) : Option (ByteArray) :=
  (bif (decide (p.2.2.2.1 < p.2.1)) then rec4 (p.1, p.2.1, (IntKind.i64.wrap (p.2.2.1.tdiv (256 : Int))), (IntKind.i64.wrap (p.2.2.2.1 + (1 : Int))), p.2.2.2.2.1, p.2.2.2.2.2.1, p.2.2.2.2.2.2.1, p.2.2.2.2.2.2.2) else (bif decide ((p.2.2.2.2.2.2.2.length + [(IntKind.u8.wrap (p.2.2.1.tmod (256 : Int)))].length) * 1 ≤ 140737488355328) then rec2 (p.1, (IntKind.i64.wrap (p.2.1 - (1 : Int))), p.2.2.2.2.1, p.2.2.2.2.2.1, p.2.2.2.2.2.2.1, (p.2.2.2.2.2.2.2 ++ [(IntKind.u8.wrap (p.2.2.1.tmod (256 : Int)))])) else none))
def spec_HashEnd.l4 (k : Nat) (rec2 : (Int × Int × ByteArray × ByteArray × Int × (List (Int))) → Option (ByteArray)) : Nat → (Int × Int × Int × Int × ByteArray × ByteArray × Int × (List (Int))) → Option (ByteArray)
  | 0 => fun _ => none
  | j + 1 => spec_HashEnd.s4 k rec2 (spec_HashEnd.l4 k rec2 j)
def spec_HashEnd.s6 (k : Nat) (rec6 : (Int × (List (Int)) × (List (Int)) × (List (Int))) → Option (ByteArray)) (p : (Int × (List (Int)) × (List (Int)) × (List (Int)))) : Option (ByteArray) :=
  (bif (decide (p.1 < (p.2.1.length : Int))) then (bif ((decide ((0 : Int) ≤ p.1)) && ((decide (p.1 ≤ (IntKind.i64.wrap (p.1 + (64 : Int))))) && (decide ((IntKind.i64.wrap (p.1 + (64 : Int))) ≤ (p.2.1.length : Int))))) then (spec_l04Round.f k p.2.2.1 p.2.2.2 (strOfNums ((p.2.1.drop p.1.toNat).take ((IntKind.i64.wrap (p.1 + (64 : Int))).toNat - p.1.toNat)))).bind fun r4 => rec6 ((IntKind.i64.wrap (p.1 + (64 : Int))), p.2.1, r4, p.2.2.2) else none) else (spec_l04Bytes.f k p.2.2.1).bind fun r5 => some r5)
def spec_HashEnd.l6 (k : Nat) : Nat → (Int × (List (Int)) × (List (Int)) × (List (Int))) → Option (ByteArray)
  | 0 => fun _ => none
  | j + 1 => spec_HashEnd.s6 k (spec_HashEnd.l6 k j)
def spec_HashEnd.s2 (k : Nat) (_rec2 : (Int × Int × ByteArray × ByteArray × Int × (List (Int))) → Option (ByteArray)) (i4 : (Int × Int × Int × Int × ByteArray × ByteArray × Int × (List (Int))) → Option (ByteArray)) (i6 : (Int × (List (Int)) × (List (Int)) × (List (Int))) → Option (ByteArray)) (p : (Int × Int × ByteArray × ByteArray × Int × (List (Int)))) : Option (ByteArray) :=
  (bif (decide (p.2.1 ≥ (0 : Int))) then i4 (p.1, p.2.1, p.1, (0 : Int), p.2.2.1, p.2.2.2.1, p.2.2.2.2.1, p.2.2.2.2.2) else (spec_l04Words.f k p.2.2.1).bind fun r2 => (spec_l04K.f k).bind fun r3 => i6 ((0 : Int), p.2.2.2.2.2, r2, r3))
def spec_HashEnd.l2 (k : Nat) : Nat → (Int × Int × ByteArray × ByteArray × Int × (List (Int))) → Option (ByteArray)
  | 0 => fun _ => none
  | j + 1 => spec_HashEnd.s2 k (spec_HashEnd.l2 k j) (spec_HashEnd.l4 k (spec_HashEnd.l2 k j) k) (spec_HashEnd.l6 k k)
def spec_HashEnd.s0 (_k : Nat) (rec0 : (ByteArray × ByteArray × Int × (List (Int))) → Option (ByteArray)) (i2 : (Int × Int × ByteArray × ByteArray × Int × (List (Int))) → Option (ByteArray)) (p : (ByteArray × ByteArray × Int × (List (Int)))) : Option (ByteArray) :=
  (bif (((p.2.2.2.length : Int).tmod (64 : Int)) != (56 : Int)) then (bif decide ((p.2.2.2.length + [(0 : Int)].length) * 1 ≤ 140737488355328) then rec0 (p.1, p.2.1, p.2.2.1, (p.2.2.2 ++ [(0 : Int)])) else none) else i2 ((IntKind.i64.wrap ((8 : Int) * p.2.2.1)), (7 : Int), p.1, p.2.1, p.2.2.1, p.2.2.2))
def spec_HashEnd.l0 (k : Nat) : Nat → (ByteArray × ByteArray × Int × (List (Int))) → Option (ByteArray)
  | 0 => fun _ => none
  | j + 1 => spec_HashEnd.s0 k (spec_HashEnd.l0 k j) (spec_HashEnd.l2 k k)
def spec_HashEnd.S4 (p : (Int × Int × Int × Int × ByteArray × ByteArray × Int × (List (Int)))) : DS := ⟨tl [(1, .at (.bptr 16 0)), (3, .at (.whole 1104)), (4, .at (.int .i64 p.1)), (5, .at (.int .i64 p.2.1)), (6, .at (.int .i64 p.2.2.1)), (7, .at (.int .i64 p.2.2.2.1))], lookO [(16, .box 132 [.str p.2.2.2.2.1, .str p.2.2.2.2.2.1, .int .i64 p.2.2.2.2.2.2.1]), (1104, .row 5 (.int .u8) true p.2.2.2.2.2.2.2)]⟩
def spec_HashEnd.S6 (p : (Int × (List (Int)) × (List (Int)) × (List (Int)))) : DS := ⟨tl [(3, .at (.whole 1104)), (8, .at (.whole 1105)), (9, .at (.whole 1106)), (10, .at (.int .i64 p.1))], lookO [(1104, .row 5 (.int .u8) true p.2.1), (1105, .row 111 (.int .u32) true p.2.2.1), (1106, .row 111 (.int .u32) true p.2.2.2)]⟩
def spec_HashEnd.S2 (p : (Int × Int × ByteArray × ByteArray × Int × (List (Int)))) : DS := ⟨tl [(1, .at (.bptr 16 0)), (3, .at (.whole 1104)), (4, .at (.int .i64 p.1)), (5, .at (.int .i64 p.2.1))], lookO [(16, .box 132 [.str p.2.2.1, .str p.2.2.2.1, .int .i64 p.2.2.2.2.1]), (1104, .row 5 (.int .u8) true p.2.2.2.2.2)]⟩
def spec_HashEnd.S0 (p : (ByteArray × ByteArray × Int × (List (Int)))) : DS := ⟨tl [(1, .at (.bptr 16 0)), (3, .at (.whole 1104))], lookO [(16, .box 132 [.str p.1, .str p.2.1, .int .i64 p.2.2.1]), (1104, .row 5 (.int .u8) true p.2.2.2)]⟩
noncomputable def spec_HashEnd.D4 (k : Nat) (j2 : Nat) (j : Nat) (p : (Int × Int × Int × Int × ByteArray × ByteArray × Int × (List (Int)))) : Option (ByteArray) := loopK (norm [] (spec_HashEnd.h 4)) (runK spec_HashEnd.x k 0 [] spec_HashEnd.h 4 (sub spec_HashEnd.c [1, 1, 1, 1, 1, 1, 0, 1, 0, 0, 1, 0, 0, 1, 0, 1, 0, 0])) j (spec_HashEnd.S4 p) (kBlk 4 (kSeq (runK spec_HashEnd.x k 0 [] spec_HashEnd.h 3 (sub spec_HashEnd.c [1, 1, 1, 1, 1, 1, 0, 1, 0, 0, 1, 0, 0, 1, 1])) (kBlk 3 (kSeq (runK spec_HashEnd.x k 0 [] spec_HashEnd.h 2 (sub spec_HashEnd.c [1, 1, 1, 1, 1, 1, 0, 1, 0, 0, 1, 1])) (kSeq (fun s' K => (norm [] (spec_HashEnd.h 2) s').bind fun s => loopK (norm [] (spec_HashEnd.h 2)) (runK spec_HashEnd.x k 0 [] spec_HashEnd.h 2 (sub spec_HashEnd.c [1, 1, 1, 1, 1, 1, 0, 1, 0, 0])) j2 s K) (kBlk 2 (kSeq (runK spec_HashEnd.x k 0 [] spec_HashEnd.h 0 (sub spec_HashEnd.c [1, 1, 1, 1, 1, 1, 1])) (fin tt spec_HashEnd.ps spec_HashEnd.rs spec_HashEnd.vs .str))))))))
noncomputable def spec_HashEnd.D6 (k : Nat) (j : Nat) (p : (Int × (List (Int)) × (List (Int)) × (List (Int)))) : Option (ByteArray) := loopK (norm [] (spec_HashEnd.h 6)) (runK spec_HashEnd.x k 0 [] spec_HashEnd.h 6 (sub spec_HashEnd.c [1, 1, 1, 1, 1, 1, 1, 1, 1, 0, 1, 0, 0])) j (spec_HashEnd.S6 p) (kBlk 6 (kSeq (runK spec_HashEnd.x k 0 [] spec_HashEnd.h 0 (sub spec_HashEnd.c [1, 1, 1, 1, 1, 1, 1, 1, 1, 1])) (fin tt spec_HashEnd.ps spec_HashEnd.rs spec_HashEnd.vs .str)))
noncomputable def spec_HashEnd.D2 (k : Nat) (j : Nat) (p : (Int × Int × ByteArray × ByteArray × Int × (List (Int)))) : Option (ByteArray) := loopK (norm [] (spec_HashEnd.h 2)) (runK spec_HashEnd.x k 0 [] spec_HashEnd.h 2 (sub spec_HashEnd.c [1, 1, 1, 1, 1, 1, 0, 1, 0, 0])) j (spec_HashEnd.S2 p) (kBlk 2 (kSeq (runK spec_HashEnd.x k 0 [] spec_HashEnd.h 0 (sub spec_HashEnd.c [1, 1, 1, 1, 1, 1, 1])) (fin tt spec_HashEnd.ps spec_HashEnd.rs spec_HashEnd.vs .str)))
noncomputable def spec_HashEnd.D0 (k : Nat) (j : Nat) (p : (ByteArray × ByteArray × Int × (List (Int)))) : Option (ByteArray) := loopK (norm [] (spec_HashEnd.h 0)) (runK spec_HashEnd.x k 0 [] spec_HashEnd.h 0 (sub spec_HashEnd.c [1, 1, 1, 1, 0, 0, 0])) j (spec_HashEnd.S0 p) (kBlk 0 (kSeq (runK spec_HashEnd.x k 0 [] spec_HashEnd.h 0 (sub spec_HashEnd.c [1, 1, 1, 1, 1])) (fin tt spec_HashEnd.ps spec_HashEnd.rs spec_HashEnd.vs .str)))
theorem spec_HashEnd.D4_eq (k : Nat) (j2 : Nat) : ∀ j, spec_HashEnd.D4 k j2 j = spec_HashEnd.l4 k (spec_HashEnd.D2 k j2) j := by
  intro j
  induction j with
  | zero => rfl
  | succ j ih =>
    show _ = spec_HashEnd.s4 k (spec_HashEnd.D2 k j2) (spec_HashEnd.l4 k (spec_HashEnd.D2 k j2) j)
    rw [← ih]
    funext p
    kernel_rfl
theorem spec_HashEnd.D6_eq (k : Nat) : ∀ j, spec_HashEnd.D6 k j = spec_HashEnd.l6 k j := by
  intro j
  induction j with
  | zero => rfl
  | succ j ih =>
    show _ = spec_HashEnd.s6 k (spec_HashEnd.l6 k j)
    rw [← ih]
    funext p
    kernel_rfl
theorem spec_HashEnd.D2_eq (k : Nat) : ∀ j, spec_HashEnd.D2 k j = spec_HashEnd.l2 k j := by
  intro j
  induction j with
  | zero => rfl
  | succ j ih =>
    show _ = spec_HashEnd.s2 k (spec_HashEnd.l2 k j) (spec_HashEnd.l4 k (spec_HashEnd.l2 k j) k) (spec_HashEnd.l6 k k)
    rw [← ih, ← spec_HashEnd.D4_eq k j k, ← spec_HashEnd.D6_eq k k]
    funext p
    kernel_rfl
theorem spec_HashEnd.D0_eq (k : Nat) : ∀ j, spec_HashEnd.D0 k j = spec_HashEnd.l0 k j := by
  intro j
  induction j with
  | zero => rfl
  | succ j ih =>
    show _ = spec_HashEnd.s0 k (spec_HashEnd.l0 k j) (spec_HashEnd.l2 k k)
    rw [← ih, ← spec_HashEnd.D2_eq k k]
    funext p
    kernel_rfl
def spec_HashEnd.f (k : Nat) (a0_0 : ByteArray) (a0_1 : ByteArray) (a0_2 : Int) : Option (ByteArray) :=
  (spec_HasherOk.f k a0_0 a0_1 a0_2).bind fun r1 => (bif (!r1) then some ByteArray.empty else (bif decide (((numsOf a0_1).length + [(128 : Int)].length) * 1 ≤ 140737488355328) then spec_HashEnd.l0 k k (a0_0, a0_1, a0_2, ((numsOf a0_1) ++ [(128 : Int)])) else none))
def spec_HashEnd.K : Ctr := ⟨spec_HashEnd.ps, spec_HashEnd.rs, false, (.two .str (.two .str (.int .i64))), .str, fun k x => spec_HashEnd.f k x.1 x.2.1 x.2.2⟩
theorem spec_HashEnd.eq (k : Nat) (x : (spec_HashEnd.K.I).den) : func spec_HashEnd.x spec_HashEnd.h spec_HashEnd.ps spec_HashEnd.rs spec_HashEnd.vs spec_HashEnd.K.I spec_HashEnd.K.O spec_HashEnd.c k x = spec_HashEnd.K.run k x := by
  show _ = spec_HashEnd.f k x.1 x.2.1 x.2.2
  unfold spec_HashEnd.f
  rw [← spec_HashEnd.D0_eq k k]
  kernel_rfl
theorem spec_HashEnd.ok : CtrOk Try.prog 113 spec_HashEnd.K :=
  CtrOk.of (fn := Try.f113) (cd := spec_HashEnd.c) (cx := spec_HashEnd.x) (hs := spec_HashEnd.h) (by kernel_rfl) (by kernel_rfl) (by kernel_rfl) (by kernel_rfl) tt_ok (envOk_cons spec_HasherOk.ok (envOk_cons spec_l04Words.ok (envOk_cons spec_l04K.ok (envOk_cons spec_l04Round.ok (envOk_cons spec_l04Bytes.ok (envOk_nil)))))) (by kernel_rfl) (by kernel_rfl) (by kernel_rfl) (by kernel_rfl) fun k x r h => (spec_HashEnd.eq k x).trans h
/-! spec.DigestOf -/
noncomputable def spec_DigestOf.c : Code := bodyOf Try.f93
def spec_DigestOf.h : Nat → Hint := look ⟨[], [], []⟩ []
def spec_DigestOf.ps : List PK := [.one]
def spec_DigestOf.rs : List RK := [.one true]
def spec_DigestOf.vs : List ResultVar := [.tmp 2]
def spec_DigestOf.x : Cx := ⟨tt, look none [(115, some spec_HasherNew.K), (114, some spec_HashMore.K), (113, some spec_HashEnd.K)]⟩
def spec_DigestOf.f (k : Nat) (a0 : ByteArray) : Option (ByteArray) :=
  (spec_HasherNew.f k).bind fun r1 => (spec_HashMore.f k r1.1 r1.2.1 r1.2.2 a0).bind fun r2 => (spec_HashEnd.f k r2.1 r2.2.1 r2.2.2).bind fun r3 => some r3
def spec_DigestOf.K : Ctr := ⟨spec_DigestOf.ps, spec_DigestOf.rs, false, .str, .str, fun k x => spec_DigestOf.f k x⟩
theorem spec_DigestOf.eq (k : Nat) (x : (spec_DigestOf.K.I).den) : func spec_DigestOf.x spec_DigestOf.h spec_DigestOf.ps spec_DigestOf.rs spec_DigestOf.vs spec_DigestOf.K.I spec_DigestOf.K.O spec_DigestOf.c k x = spec_DigestOf.K.run k x := by
  show _ = spec_DigestOf.f k x
  kernel_rfl
theorem spec_DigestOf.ok : CtrOk Try.prog 93 spec_DigestOf.K :=
  CtrOk.of (fn := Try.f93) (cd := spec_DigestOf.c) (cx := spec_DigestOf.x) (hs := spec_DigestOf.h) (by kernel_rfl) (by kernel_rfl) (by kernel_rfl) (by kernel_rfl) tt_ok (envOk_cons spec_HasherNew.ok (envOk_cons spec_HashMore.ok (envOk_cons spec_HashEnd.ok (envOk_nil)))) (by kernel_rfl) (by kernel_rfl) (by kernel_rfl) (by kernel_rfl) fun k x r h => (spec_DigestOf.eq k x).trans h
/-! spec.NextKeys -/
noncomputable def spec_NextKeys.c : Code := bodyOf Try.f40
def spec_NextKeys.h : Nat → Hint := look ⟨[], [], []⟩ []
def spec_NextKeys.ps : List PK := [.one, .one]
def spec_NextKeys.rs : List RK := [.one true, .one true]
def spec_NextKeys.vs : List ResultVar := [.tmp 4, .tmp 5]
def spec_NextKeys.x : Cx := ⟨tt, look none [(93, some spec_DigestOf.K)]⟩
def spec_NextKeys.f (k : Nat) (a0 : ByteArray) (a1 : ByteArray) : Option (ByteArray × ByteArray) :=
  (bif decide (a0.size + (⟨#[107]⟩ : ByteArray).size ≤ 140737488351232) then (spec_DigestOf.f k (a0 ++ (⟨#[107]⟩ : ByteArray))).bind fun r1 => (bif decide (a1.size + (⟨#[107]⟩ : ByteArray).size ≤ 140737488351232) then (spec_DigestOf.f k (a1 ++ (⟨#[107]⟩ : ByteArray))).bind fun r2 => some (r1, r2) else none) else none)
def spec_NextKeys.K : Ctr := ⟨spec_NextKeys.ps, spec_NextKeys.rs, false, (.two .str .str), (.two .str .str), fun k x => spec_NextKeys.f k x.1 x.2⟩
theorem spec_NextKeys.eq (k : Nat) (x : (spec_NextKeys.K.I).den) : func spec_NextKeys.x spec_NextKeys.h spec_NextKeys.ps spec_NextKeys.rs spec_NextKeys.vs spec_NextKeys.K.I spec_NextKeys.K.O spec_NextKeys.c k x = spec_NextKeys.K.run k x := by
  show _ = spec_NextKeys.f k x.1 x.2
  kernel_rfl
theorem spec_NextKeys.ok : CtrOk Try.prog 40 spec_NextKeys.K :=
  CtrOk.of (fn := Try.f40) (cd := spec_NextKeys.c) (cx := spec_NextKeys.x) (hs := spec_NextKeys.h) (by kernel_rfl) (by kernel_rfl) (by kernel_rfl) (by kernel_rfl) tt_ok (envOk_cons spec_DigestOf.ok (envOk_nil)) (by kernel_rfl) (by kernel_rfl) (by kernel_rfl) (by kernel_rfl) fun k x r h => (spec_NextKeys.eq k x).trans h
/-! impl.within -/
noncomputable def impl_within.c : Code := bodyOf Try.f73
def impl_within.h : Nat → Hint := look ⟨[], [], []⟩ []
def impl_within.ps : List PK := [.one, .one, .one]
def impl_within.rs : List RK := [.one true]
def impl_within.vs : List ResultVar := [.tmp 6]
def impl_within.x : Cx := ⟨tt, look none []⟩
def impl_within.f (_k : Nat) (a0 : Int) (a1 : Int) (a2 : Int) : Option (Bool) :=
  (bif (decide (a0 ≥ a1)) then some (decide (a0 ≤ a2)) else some false)
def impl_within.K : Ctr := ⟨impl_within.ps, impl_within.rs, false, (.two (.int .i64) (.two (.int .i64) (.int .i64))), .bool, fun k x => impl_within.f k x.1 x.2.1 x.2.2⟩
theorem impl_within.eq (k : Nat) (x : (impl_within.K.I).den) : func impl_within.x impl_within.h impl_within.ps impl_within.rs impl_within.vs impl_within.K.I impl_within.K.O impl_within.c k x = impl_within.K.run k x := by
  show _ = impl_within.f k x.1 x.2.1 x.2.2
  kernel_rfl
theorem impl_within.ok : CtrOk Try.prog 73 impl_within.K :=
  CtrOk.of (fn := Try.f73) (cd := impl_within.c) (cx := impl_within.x) (hs := impl_within.h) (by kernel_rfl) (by kernel_rfl) (by kernel_rfl) (by kernel_rfl) tt_ok (envOk_nil) (by kernel_rfl) (by kernel_rfl) (by kernel_rfl) (by kernel_rfl) fun k x r h => (impl_within.eq k x).trans h
/-! impl.NumberText -/
noncomputable def impl_NumberText.c : Code := bodyOf Try.f132
def impl_NumberText.h : Nat → Hint := look ⟨[], [], []⟩ []
def impl_NumberText.ps : List PK := [.one]
def impl_NumberText.rs : List RK := [.one true]
def impl_NumberText.vs : List ResultVar := [.tmp 2]
def impl_NumberText.x : Cx := ⟨tt, look none [(73, some impl_within.K)]⟩
def impl_NumberText.f (k : Nat) (a0 : Int) : Option (ByteArray) :=
  (impl_within.f k a0 (0 : Int) (4294967295 : Int)).bind fun r1 => (bif (!r1) then some ByteArray.empty else some (strOfNums [(IntKind.u8.wrap (IntKind.i64.wrap (((BitVec.ofInt IntKind.i64.bits (a0.fdiv (2 ^ 24))) &&& (BitVec.ofInt IntKind.i64.bits (255 : Int))).toNat : Int))), (IntKind.u8.wrap (IntKind.i64.wrap (((BitVec.ofInt IntKind.i64.bits (a0.fdiv (2 ^ 16))) &&& (BitVec.ofInt IntKind.i64.bits (255 : Int))).toNat : Int))), (IntKind.u8.wrap (IntKind.i64.wrap (((BitVec.ofInt IntKind.i64.bits (a0.fdiv (2 ^ 8))) &&& (BitVec.ofInt IntKind.i64.bits (255 : Int))).toNat : Int))), (IntKind.u8.wrap (IntKind.i64.wrap (((BitVec.ofInt IntKind.i64.bits a0) &&& (BitVec.ofInt IntKind.i64.bits (255 : Int))).toNat : Int)))]))
def impl_NumberText.K : Ctr := ⟨impl_NumberText.ps, impl_NumberText.rs, false, (.int .i64), .str, fun k x => impl_NumberText.f k x⟩
theorem impl_NumberText.eq (k : Nat) (x : (impl_NumberText.K.I).den) : func impl_NumberText.x impl_NumberText.h impl_NumberText.ps impl_NumberText.rs impl_NumberText.vs impl_NumberText.K.I impl_NumberText.K.O impl_NumberText.c k x = impl_NumberText.K.run k x := by
  show _ = impl_NumberText.f k x
  kernel_rfl
theorem impl_NumberText.ok : CtrOk Try.prog 132 impl_NumberText.K :=
  CtrOk.of (fn := Try.f132) (cd := impl_NumberText.c) (cx := impl_NumberText.x) (hs := impl_NumberText.h) (by kernel_rfl) (by kernel_rfl) (by kernel_rfl) (by kernel_rfl) tt_ok (envOk_cons impl_within.ok (envOk_nil)) (by kernel_rfl) (by kernel_rfl) (by kernel_rfl) (by kernel_rfl) fun k x r h => (impl_NumberText.eq k x).trans h
/-! impl.wordsText -/
noncomputable def impl_wordsText.c : Code := bodyOf Try.f130
def impl_wordsText.h : Nat → Hint := look ⟨[], [], []⟩ [(0, ⟨[3, 6, 7, 8], [], []⟩)]
def impl_wordsText.ps : List PK := [.one]
def impl_wordsText.rs : List RK := [.one true]
def impl_wordsText.vs : List ResultVar := [.tmp 2]
def impl_wordsText.x : Cx := ⟨tt, look none [(132, some impl_NumberText.K)]⟩
def impl_wordsText.s0 (k : Nat) (rec0 : (ByteArray × Int × Int × (List (Int))) → Option (ByteArray)) (p : (ByteArray × Int × Int × (List (Int)))) : Option (ByteArray) :=
  (bif (decide (p.2.2.1 < p.2.1)) then (bif ((decide ((0 : Int) ≤ p.2.2.1)) && (decide (p.2.2.1 < (p.2.2.2.length : Int)))) then (p.2.2.2[p.2.2.1.toNat]?).bind fun x1 => (impl_NumberText.f k x1).bind fun r2 => (bif decide (p.1.size + r2.size ≤ 140737488351232) then rec0 ((p.1 ++ r2), p.2.1, (IntKind.i64.wrap (p.2.2.1 + (1 : Int))), p.2.2.2) else none) else none) else some p.1)
def impl_wordsText.l0 (k : Nat) : Nat → (ByteArray × Int × Int × (List (Int))) → Option (ByteArray)
  | 0 => fun _ => none
  | j + 1 => impl_wordsText.s0 k (impl_wordsText.l0 k j)
def impl_wordsText.S0 (p : (ByteArray × Int × Int × (List (Int)))) : DS := ⟨tl [(3, .at (.str p.1)), (6, .at (.whole 0)), (7, .at (.int .i64 p.2.1)), (8, .at (.int .i64 p.2.2.1))], lookO [(0, .row 3 (.int .i64) false p.2.2.2)]⟩
noncomputable def impl_wordsText.D0 (k : Nat) (j : Nat) (p : (ByteArray × Int × Int × (List (Int)))) : Option (ByteArray) := loopK (norm [0] (impl_wordsText.h 0)) (runK impl_wordsText.x k 0 [0] impl_wordsText.h 0 (sub impl_wordsText.c [1, 1, 0, 1, 0, 0])) j (impl_wordsText.S0 p) (kBlk 0 (kSeq (runK impl_wordsText.x k 0 [0] impl_wordsText.h 0 (sub impl_wordsText.c [1, 1, 1])) (fin tt impl_wordsText.ps impl_wordsText.rs impl_wordsText.vs .str)))
theorem impl_wordsText.D0_eq (k : Nat) : ∀ j, impl_wordsText.D0 k j = impl_wordsText.l0 k j := by
  intro j
  induction j with
  | zero => rfl
  | succ j ih =>
    show _ = impl_wordsText.s0 k (impl_wordsText.l0 k j)
    rw [← ih]
    funext p
    kernel_rfl
def impl_wordsText.f (k : Nat) (a0 : List (Int)) : Option (ByteArray) :=
  impl_wordsText.l0 k k (ByteArray.empty, (a0.length : Int), (0 : Int), a0)
def impl_wordsText.K : Ctr := ⟨impl_wordsText.ps, impl_wordsText.rs, false, (.sl 3 (.int .i64)), .str, fun k x => impl_wordsText.f k x⟩
theorem impl_wordsText.eq (k : Nat) (x : (impl_wordsText.K.I).den) : func impl_wordsText.x impl_wordsText.h impl_wordsText.ps impl_wordsText.rs impl_wordsText.vs impl_wordsText.K.I impl_wordsText.K.O impl_wordsText.c k x = impl_wordsText.K.run k x := by
  show _ = impl_wordsText.f k x
  unfold impl_wordsText.f
  rw [← impl_wordsText.D0_eq k k]
  kernel_rfl
theorem impl_wordsText.ok : CtrOk Try.prog 130 impl_wordsText.K :=
  CtrOk.of (fn := Try.f130) (cd := impl_wordsText.c) (cx := impl_wordsText.x) (hs := impl_wordsText.h) (by kernel_rfl) (by kernel_rfl) (by kernel_rfl) (by kernel_rfl) tt_ok (envOk_cons impl_NumberText.ok (envOk_nil)) (by kernel_rfl) (by kernel_rfl) (by kernel_rfl) (by kernel_rfl) fun k x r h => (impl_wordsText.eq k x).trans h
/-! impl.firstState -/
noncomputable def impl_firstState.c : Code := bodyOf Try.f117
def impl_firstState.h : Nat → Hint := look ⟨[], [], []⟩ []
def impl_firstState.ps : List PK := []
def impl_firstState.rs : List RK := [.one true]
def impl_firstState.vs : List ResultVar := [.tmp 0]
def impl_firstState.x : Cx := ⟨tt, look none [(130, some impl_wordsText.K)]⟩
def impl_firstState.f (k : Nat) : Option (ByteArray) :=
  (impl_wordsText.f k [(1779033703 : Int), (3144134277 : Int), (1013904242 : Int), (2773480762 : Int), (1359893119 : Int), (2600822924 : Int), (528734635 : Int), (1541459225 : Int)]).bind fun r1 => some r1
def impl_firstState.K : Ctr := ⟨impl_firstState.ps, impl_firstState.rs, false, .unit, .str, fun k _ => impl_firstState.f k⟩
theorem impl_firstState.eq (k : Nat) (x : (impl_firstState.K.I).den) : func impl_firstState.x impl_firstState.h impl_firstState.ps impl_firstState.rs impl_firstState.vs impl_firstState.K.I impl_firstState.K.O impl_firstState.c k x = impl_firstState.K.run k x := by
  show _ = impl_firstState.f k
  kernel_rfl
theorem impl_firstState.ok : CtrOk Try.prog 117 impl_firstState.K :=
  CtrOk.of (fn := Try.f117) (cd := impl_firstState.c) (cx := impl_firstState.x) (hs := impl_firstState.h) (by kernel_rfl) (by kernel_rfl) (by kernel_rfl) (by kernel_rfl) tt_ok (envOk_cons impl_wordsText.ok (envOk_nil)) (by kernel_rfl) (by kernel_rfl) (by kernel_rfl) (by kernel_rfl) fun k x r h => (impl_firstState.eq k x).trans h
/-! strings.Repeat -/
def strings_Repeat.f (_k : Nat) (a0 : ByteArray) (a1 : Int) : Option ByteArray := repRun a0 a1
def strings_Repeat.K : Ctr := repCtr
theorem strings_Repeat.ok : CtrOk Try.prog 131 strings_Repeat.K := rep131
/-! impl.padding -/
noncomputable def impl_padding.c : Code := bodyOf Try.f118
def impl_padding.h : Nat → Hint := look ⟨[], [], []⟩ []
def impl_padding.ps : List PK := [.one]
def impl_padding.rs : List RK := [.one true]
def impl_padding.vs : List ResultVar := [.tmp 2]
def impl_padding.x : Cx := ⟨tt, look none [(131, some strings_Repeat.K), (132, some impl_NumberText.K)]⟩
def impl_padding.f (k : Nat) (a0 : Int) : Option (ByteArray) :=
  (strings_Repeat.f k (⟨#[0]⟩ : ByteArray) ((IntKind.i64.wrap ((119 : Int) - (a0.tmod (64 : Int)))).tmod (64 : Int))).bind fun r1 => (bif decide ((⟨#[128]⟩ : ByteArray).size + r1.size ≤ 140737488351232) then (impl_NumberText.f k ((IntKind.i64.wrap ((8 : Int) * a0)).fdiv (2 ^ 32))).bind fun r2 => (bif decide (((⟨#[128]⟩ : ByteArray) ++ r1).size + r2.size ≤ 140737488351232) then (impl_NumberText.f k (IntKind.i64.wrap (((BitVec.ofInt IntKind.i64.bits (IntKind.i64.wrap ((8 : Int) * a0))) &&& (BitVec.ofInt IntKind.i64.bits (4294967295 : Int))).toNat : Int))).bind fun r3 => (bif decide ((((⟨#[128]⟩ : ByteArray) ++ r1) ++ r2).size + r3.size ≤ 140737488351232) then some ((((⟨#[128]⟩ : ByteArray) ++ r1) ++ r2) ++ r3) else none) else none) else none)
def impl_padding.K : Ctr := ⟨impl_padding.ps, impl_padding.rs, false, (.int .i64), .str, fun k x => impl_padding.f k x⟩
theorem impl_padding.eq (k : Nat) (x : (impl_padding.K.I).den) : func impl_padding.x impl_padding.h impl_padding.ps impl_padding.rs impl_padding.vs impl_padding.K.I impl_padding.K.O impl_padding.c k x = impl_padding.K.run k x := by
  show _ = impl_padding.f k x
  kernel_rfl
theorem impl_padding.ok : CtrOk Try.prog 118 impl_padding.K :=
  CtrOk.of (fn := Try.f118) (cd := impl_padding.c) (cx := impl_padding.x) (hs := impl_padding.h) (by kernel_rfl) (by kernel_rfl) (by kernel_rfl) (by kernel_rfl) tt_ok (envOk_cons strings_Repeat.ok (envOk_cons impl_NumberText.ok (envOk_nil))) (by kernel_rfl) (by kernel_rfl) (by kernel_rfl) (by kernel_rfl) fun k x r h => (impl_padding.eq k x).trans h
/-! impl.constants -/
noncomputable def impl_constants.c : Code := bodyOf Try.f136
def impl_constants.h : Nat → Hint := look ⟨[], [], []⟩ []
def impl_constants.ps : List PK := []
def impl_constants.rs : List RK := [.agg 64 true]
def impl_constants.vs : List ResultVar := [.cell 0 149]
def impl_constants.x : Cx := ⟨tt, look none []⟩
def impl_constants.f (_k : Nat) : Option (Int × Int × Int × Int × Int × Int × Int × Int × Int × Int × Int × Int × Int × Int × Int × Int × Int × Int × Int × Int × Int × Int × Int × Int × Int × Int × Int × Int × Int × Int × Int × Int × Int × Int × Int × Int × Int × Int × Int × Int × Int × Int × Int × Int × Int × Int × Int × Int × Int × Int × Int × Int × Int × Int × Int × Int × Int × Int × Int × Int × Int × Int × Int × Int) :=
  some ((1116352408 : Int), (1899447441 : Int), (3049323471 : Int), (3921009573 : Int), (961987163 : Int), (1508970993 : Int), (2453635748 : Int), (2870763221 : Int), (3624381080 : Int), (310598401 : Int), (607225278 : Int), (1426881987 : Int), (1925078388 : Int), (2162078206 : Int), (2614888103 : Int), (3248222580 : Int), (3835390401 : Int), (4022224774 : Int), (264347078 : Int), (604807628 : Int), (770255983 : Int), (1249150122 : Int), (1555081692 : Int), (1996064986 : Int), (2554220882 : Int), (2821834349 : Int), (2952996808 : Int), (3210313671 : Int), (3336571891 : Int), (3584528711 : Int), (113926993 : Int), (338241895 : Int), (666307205 : Int), (773529912 : Int), (1294757372 : Int), (1396182291 : Int), (1695183700 : Int), (1986661051 : Int), (2177026350 : Int), (2456956037 : Int), (2730485921 : Int), (2820302411 : Int), (3259730800 : Int), (3345764771 : Int), (3516065817 : Int), (3600352804 : Int), (4094571909 : Int), (275423344 : Int), (430227734 : Int), (506948616 : Int), (659060556 : Int), (883997877 : Int), (958139571 : Int), (1322822218 : Int), (1537002063 : Int), (1747873779 : Int), (1955562222 : Int), (2024104815 : Int), (2227730452 : Int), (2361852424 : Int), (2428436474 : Int), (2756734187 : Int), (3204031479 : Int), (3329325298 : Int))
def impl_constants.K : Ctr := ⟨impl_constants.ps, impl_constants.rs, false, .unit, (.two (.int .i64) (.two (.int .i64) (.two (.int .i64) (.two (.int .i64) (.two (.int .i64) (.two (.int .i64) (.two (.int .i64) (.two (.int .i64) (.two (.int .i64) (.two (.int .i64) (.two (.int .i64) (.two (.int .i64) (.two (.int .i64) (.two (.int .i64) (.two (.int .i64) (.two (.int .i64) (.two (.int .i64) (.two (.int .i64) (.two (.int .i64) (.two (.int .i64) (.two (.int .i64) (.two (.int .i64) (.two (.int .i64) (.two (.int .i64) (.two (.int .i64) (.two (.int .i64) (.two (.int .i64) (.two (.int .i64) (.two (.int .i64) (.two (.int .i64) (.two (.int .i64) (.two (.int .i64) (.two (.int .i64) (.two (.int .i64) (.two (.int .i64) (.two (.int .i64) (.two (.int .i64) (.two (.int .i64) (.two (.int .i64) (.two (.int .i64) (.two (.int .i64) (.two (.int .i64) (.two (.int .i64) (.two (.int .i64) (.two (.int .i64) (.two (.int .i64) (.two (.int .i64) (.two (.int .i64) (.two (.int .i64) (.two (.int .i64) (.two (.int .i64) (.two (.int .i64) (.two (.int .i64) (.two (.int .i64) (.two (.int .i64) (.two (.int .i64) (.two (.int .i64) (.two (.int .i64) (.two (.int .i64) (.two (.int .i64) (.two (.int .i64) (.two (.int .i64) (.two (.int .i64) (.int .i64)))))))))))))))))))))))))))))))))))))))))))))))))))))))))))))))), fun k _ => impl_constants.f k⟩
theorem impl_constants.eq (k : Nat) (x : (impl_constants.K.I).den) : func impl_constants.x impl_constants.h impl_constants.ps impl_constants.rs impl_constants.vs impl_constants.K.I impl_constants.K.O impl_constants.c k x = impl_constants.K.run k x := by
  show _ = impl_constants.f k
  kernel_rfl
theorem impl_constants.ok : CtrOk Try.prog 136 impl_constants.K :=
  CtrOk.of (fn := Try.f136) (cd := impl_constants.c) (cx := impl_constants.x) (hs := impl_constants.h) (by kernel_rfl) (by kernel_rfl) (by kernel_rfl) (by kernel_rfl) tt_ok (envOk_nil) (by kernel_rfl) (by kernel_rfl) (by kernel_rfl) (by kernel_rfl) fun k x r h => (impl_constants.eq k x).trans h
/-! impl.ReadNumber -/
noncomputable def impl_ReadNumber.c : Code := bodyOf Try.f148
def impl_ReadNumber.h : Nat → Hint := look ⟨[], [], []⟩ []
def impl_ReadNumber.ps : List PK := [.one]
def impl_ReadNumber.rs : List RK := [.one true, .one true]
def impl_ReadNumber.vs : List ResultVar := [.tmp 2, .tmp 3]
def impl_ReadNumber.x : Cx := ⟨tt, look none []⟩
def impl_ReadNumber.f (_k : Nat) (a0 : ByteArray) : Option (Int × Bool) :=
  (bif ((a0.size : Int) != (4 : Int)) then some ((0 : Int), false) else (a0[0]?).bind fun c1 => (a0[1]?).bind fun c2 => (a0[2]?).bind fun c3 => (a0[3]?).bind fun c4 => some ((IntKind.i64.wrap (((BitVec.ofInt IntKind.i64.bits (IntKind.i64.wrap (((BitVec.ofInt IntKind.i64.bits (IntKind.i64.wrap (((BitVec.ofInt IntKind.i64.bits (IntKind.i64.wrap ((IntKind.i64.wrap (c1.toNat : Int)) * 2 ^ 24))) ||| (BitVec.ofInt IntKind.i64.bits (IntKind.i64.wrap ((IntKind.i64.wrap (c2.toNat : Int)) * 2 ^ 16)))).toNat : Int))) ||| (BitVec.ofInt IntKind.i64.bits (IntKind.i64.wrap ((IntKind.i64.wrap (c3.toNat : Int)) * 2 ^ 8)))).toNat : Int))) ||| (BitVec.ofInt IntKind.i64.bits (IntKind.i64.wrap (c4.toNat : Int)))).toNat : Int)), true))
def impl_ReadNumber.K : Ctr := ⟨impl_ReadNumber.ps, impl_ReadNumber.rs, false, .str, (.two (.int .i64) .bool), fun k x => impl_ReadNumber.f k x⟩
theorem impl_ReadNumber.eq (k : Nat) (x : (impl_ReadNumber.K.I).den) : func impl_ReadNumber.x impl_ReadNumber.h impl_ReadNumber.ps impl_ReadNumber.rs impl_ReadNumber.vs impl_ReadNumber.K.I impl_ReadNumber.K.O impl_ReadNumber.c k x = impl_ReadNumber.K.run k x := by
  show _ = impl_ReadNumber.f k x
  kernel_rfl
theorem impl_ReadNumber.ok : CtrOk Try.prog 148 impl_ReadNumber.K :=
  CtrOk.of (fn := Try.f148) (cd := impl_ReadNumber.c) (cx := impl_ReadNumber.x) (hs := impl_ReadNumber.h) (by kernel_rfl) (by kernel_rfl) (by kernel_rfl) (by kernel_rfl) tt_ok (envOk_nil) (by kernel_rfl) (by kernel_rfl) (by kernel_rfl) (by kernel_rfl) fun k x r h => (impl_ReadNumber.eq k x).trans h
/-! impl.wordsOf -/
noncomputable def impl_wordsOf.c : Code := bodyOf Try.f138
def impl_wordsOf.h : Nat → Hint := look ⟨[], [], []⟩ [(0, ⟨[0, 3, 4], [], [(.t 3, 464, 3, (.int .i64))]⟩)]
def impl_wordsOf.ps : List PK := [.one]
def impl_wordsOf.rs : List RK := [.one true]
def impl_wordsOf.vs : List ResultVar := [.tmp 2]
def impl_wordsOf.x : Cx := ⟨tt, look none [(148, some impl_ReadNumber.K)]⟩
def impl_wordsOf.s0 (k : Nat) (rec0 : (ByteArray × Int × (List (Int))) → Option ((List (Int)))) (p : (ByteArray × Int × (List (Int)))) : Option ((List (Int))) :=
  (bif (decide ((IntKind.i64.wrap (p.2.1 + (4 : Int))) ≤ (p.1.size : Int))) then (bif ((decide ((0 : Int) ≤ p.2.1)) && ((decide (p.2.1 ≤ (IntKind.i64.wrap (p.2.1 + (4 : Int))))) && (decide ((IntKind.i64.wrap (p.2.1 + (4 : Int))) ≤ (p.1.size : Int))))) then (impl_ReadNumber.f k (p.1.extract p.2.1.toNat (IntKind.i64.wrap (p.2.1 + (4 : Int))).toNat)).bind fun r1 => (bif decide ((p.2.2.length + [r1.1].length) * 8 ≤ 140737488355328) then rec0 (p.1, (IntKind.i64.wrap (p.2.1 + (4 : Int))), (p.2.2 ++ [r1.1])) else none) else none) else some p.2.2)
def impl_wordsOf.l0 (k : Nat) : Nat → (ByteArray × Int × (List (Int))) → Option ((List (Int)))
  | 0 => fun _ => none
  | j + 1 => impl_wordsOf.s0 k (impl_wordsOf.l0 k j)
def impl_wordsOf.S0 (p : (ByteArray × Int × (List (Int)))) : DS := ⟨tl [(0, .at (.str p.1)), (3, .at (.whole 464)), (4, .at (.int .i64 p.2.1))], lookO [(464, .row 3 (.int .i64) true p.2.2)]⟩
noncomputable def impl_wordsOf.D0 (k : Nat) (j : Nat) (p : (ByteArray × Int × (List (Int)))) : Option ((List (Int))) := loopK (norm [] (impl_wordsOf.h 0)) (runK impl_wordsOf.x k 0 [] impl_wordsOf.h 0 (sub impl_wordsOf.c [1, 1, 0, 1, 0, 0])) j (impl_wordsOf.S0 p) (kBlk 0 (kSeq (runK impl_wordsOf.x k 0 [] impl_wordsOf.h 0 (sub impl_wordsOf.c [1, 1, 1])) (fin tt impl_wordsOf.ps impl_wordsOf.rs impl_wordsOf.vs (.sl 3 (.int .i64)))))
theorem impl_wordsOf.D0_eq (k : Nat) : ∀ j, impl_wordsOf.D0 k j = impl_wordsOf.l0 k j := by
  intro j
  induction j with
  | zero => rfl
  | succ j ih =>
    show _ = impl_wordsOf.s0 k (impl_wordsOf.l0 k j)
    rw [← ih]
    funext p
    kernel_rfl
def impl_wordsOf.f (k : Nat) (a0 : ByteArray) : Option ((List (Int))) :=
  impl_wordsOf.l0 k k (a0, (0 : Int), ([] : List (Int)))
def impl_wordsOf.K : Ctr := ⟨impl_wordsOf.ps, impl_wordsOf.rs, false, .str, (.sl 3 (.int .i64)), fun k x => impl_wordsOf.f k x⟩
theorem impl_wordsOf.eq (k : Nat) (x : (impl_wordsOf.K.I).den) : func impl_wordsOf.x impl_wordsOf.h impl_wordsOf.ps impl_wordsOf.rs impl_wordsOf.vs impl_wordsOf.K.I impl_wordsOf.K.O impl_wordsOf.c k x = impl_wordsOf.K.run k x := by
  show _ = impl_wordsOf.f k x
  unfold impl_wordsOf.f
  rw [← impl_wordsOf.D0_eq k k]
  kernel_rfl
theorem impl_wordsOf.ok : CtrOk Try.prog 138 impl_wordsOf.K :=
  CtrOk.of (fn := Try.f138) (cd := impl_wordsOf.c) (cx := impl_wordsOf.x) (hs := impl_wordsOf.h) (by kernel_rfl) (by kernel_rfl) (by kernel_rfl) (by kernel_rfl) tt_ok (envOk_cons impl_ReadNumber.ok (envOk_nil)) (by kernel_rfl) (by kernel_rfl) (by kernel_rfl) (by kernel_rfl) fun k x r h => (impl_wordsOf.eq k x).trans h
/-! impl.turnRight -/
noncomputable def impl_turnRight.c : Code := bodyOf Try.f139
def impl_turnRight.h : Nat → Hint := look ⟨[], [], []⟩ []
def impl_turnRight.ps : List PK := [.one, .one]
def impl_turnRight.rs : List RK := [.one true]
def impl_turnRight.vs : List ResultVar := [.tmp 4]
def impl_turnRight.x : Cx := ⟨tt, look none []⟩
def impl_turnRight.f (_k : Nat) (a0 : Int) (a1 : Int) : Option (Int) :=
  (bif (decide (a1 < (0 : Int))) then none else (bif (decide ((IntKind.i64.wrap ((32 : Int) - a1)) < (0 : Int))) then none else some (IntKind.i64.wrap (((BitVec.ofInt IntKind.i64.bits (IntKind.i64.wrap (((BitVec.ofInt IntKind.i64.bits (a0.fdiv (2 ^ (min a1.toNat IntKind.i64.bits)))) ||| (BitVec.ofInt IntKind.i64.bits (IntKind.i64.wrap (a0 * 2 ^ (min (IntKind.i64.wrap ((32 : Int) - a1)).toNat IntKind.i64.bits))))).toNat : Int))) &&& (BitVec.ofInt IntKind.i64.bits (4294967295 : Int))).toNat : Int))))
def impl_turnRight.K : Ctr := ⟨impl_turnRight.ps, impl_turnRight.rs, false, (.two (.int .i64) (.int .i64)), (.int .i64), fun k x => impl_turnRight.f k x.1 x.2⟩
theorem impl_turnRight.eq (k : Nat) (x : (impl_turnRight.K.I).den) : func impl_turnRight.x impl_turnRight.h impl_turnRight.ps impl_turnRight.rs impl_turnRight.vs impl_turnRight.K.I impl_turnRight.K.O impl_turnRight.c k x = impl_turnRight.K.run k x := by
  show _ = impl_turnRight.f k x.1 x.2
  kernel_rfl
theorem impl_turnRight.ok : CtrOk Try.prog 139 impl_turnRight.K :=
  CtrOk.of (fn := Try.f139) (cd := impl_turnRight.c) (cx := impl_turnRight.x) (hs := impl_turnRight.h) (by kernel_rfl) (by kernel_rfl) (by kernel_rfl) (by kernel_rfl) tt_ok (envOk_nil) (by kernel_rfl) (by kernel_rfl) (by kernel_rfl) (by kernel_rfl) fun k x r h => (impl_turnRight.eq k x).trans h
end Go.Proofs.Ytpheniajdbbphaa.DI
