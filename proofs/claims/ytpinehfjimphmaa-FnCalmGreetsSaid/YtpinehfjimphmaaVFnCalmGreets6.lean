/- FnCalmGreets: functions as plain Lean, in the machine of values. -/
import Derived.Test.YtpinehfjimphmaaVFnCalmGreets5
namespace Go.Proofs.Ytpinehfjimphmaa.DI
open Go
set_option linter.unusedVariables false
/-! spec.HashEnd -/
noncomputable def spec_HashEnd.c : Code := bodyOf Try.f77
def spec_HashEnd.h : Nat → Hint := look ⟨[], [], []⟩ [(0, ⟨[1, 3], [16], [(.t 3, 1104, 5, (.int .u8))]⟩), (2, ⟨[1, 3, 4, 5], [16], [(.t 3, 1104, 5, (.int .u8))]⟩), (4, ⟨[1, 3, 4, 5, 6, 7], [16], [(.t 3, 1104, 5, (.int .u8))]⟩), (6, ⟨[3, 8, 9, 10], [], [(.t 3, 1104, 5, (.int .u8)), (.t 8, 1105, 113, (.int .u32)), (.t 9, 1106, 113, (.int .u32))]⟩)]
def spec_HashEnd.ps : List PK := [.agg 3]
def spec_HashEnd.rs : List RK := [.one true]
def spec_HashEnd.vs : List ResultVar := [.tmp 2]
def spec_HashEnd.x : Cx := ⟨tt, look none [(85, some spec_HasherOk.K), (86, some spec_l04Words.K), (87, some spec_l04K.K), (88, some spec_l04Round.K), (89, some spec_l04Bytes.K)]⟩
def spec_HashEnd.s4 (_k : Nat) (rec2 : (Int × Int × ByteArray × ByteArray × Int × (List (Int))) → Option (ByteArray)) (rec4 : (Int × Int × Int × Int × ByteArray × ByteArray × Int × (List (Int))) → Option (ByteArray)) (p : (Int × Int × Int × Int × ByteArray × ByteArray × Int × (List (Int)))) : Option (ByteArray) :=
  (bif (decide (p.2.2.2.1 < p.2.1)) then rec4 (p.1, p.2.1, (IntKind.i64.wrap (p.2.2.1.tdiv (256 : Int))), (IntKind.i64.wrap (p.2.2.2.1 + (1 : Int))), p.2.2.2.2.1, p.2.2.2.2.2.1, p.2.2.2.2.2.2.1, p.2.2.2.2.2.2.2) else (bif decide ((p.2.2.2.2.2.2.2.length + [(IntKind.u8.wrap (p.2.2.1.tmod (256 : Int)))].length) * 1 ≤ 140737488355328) then rec2 (p.1, (IntKind.i64.wrap (p.2.1 - (1 : Int))), p.2.2.2.2.1, p.2.2.2.2.2.1, p.2.2.2.2.2.2.1, (p.2.2.2.2.2.2.2 ++ [(IntKind.u8.wrap (p.2.2.1.tmod (256 : Int)))])) else none))
def spec_HashEnd.l4 (k : Nat) (rec2 : (Int × Int × ByteArray × ByteArray × Int × (List (Int))) → Option (ByteArray)) : Nat → (Int × Int × Int × Int × ByteArray × ByteArray × Int × (List (Int))) → Option (ByteArray)
  | 0 => fun _ => none
  | j + 1 => spec_HashEnd.s4 k rec2 (spec_HashEnd.l4 k rec2 j)
def spec_HashEnd.s6 (k : Nat) (rec6 : (Int × (List (Int)) × (List (Int)) × (List (Int))) → Option (ByteArray)) (p : (Int × (List (Int)) × (List (Int)) × (List (Int)))) : Option (ByteArray) :=
  (bif (decide (p.1 < (p.2.1.length : Int))) then (bif ((decide ((0 : Int) ≤ p.1)) && ((decide (p.1 ≤ (IntKind.i64.wrap (p.1 + (64 : Int))))) && (decide ((IntKind.i64.wrap (p.1 + (64 : Int))) ≤ (p.2.1.length : Int))))) then (spec_l04Round.f k p.2.2.1 p.2.2.2 (strOfNums ((p.2.1.drop p.1.toNat).take ((IntKind.i64.wrap (p.1 + (64 : Int))).toNat - p.1.toNat)))).bind fun r4 => rec6 ((IntKind.i64.wrap (p.1 + (64 : Int))), p.2.1, r4, p.2.2.2) else none) else (spec_l04Bytes.f k p.2.2.1).bind fun r5 => some r5)
def spec_HashEnd.l6 (k : Nat) : Nat → (Int × (List (Int)) × (List (Int)) × (List (Int))) → Option (ByteArray)
  | 0 => fun _ => none
  | j + 1 => spec_HashEnd.s6 k (spec_HashEnd.l6 k j)
def spec_HashEnd.s2 (k : Nat) (_rec2 : (Int × Int × ByteArray × ByteArray × Int × (List (Int))) → Option (ByteArray)) (i4 : (Int × Int × Int × Int × ByteArray × ByteArray × Int × (List (Int))) → Option (ByteArray)) (i6 : (Int × (List (Int)) × (List (Int)) × (List (Int))) → Option (ByteArray)) (p : (Int × Int × ByteArray × ByteArray × Int × (List (Int)))) : Option (ByteArray) :=
  (bif (decide (p.2.1 ≥ (0 : Int))) then i4 (p.1, p.2.1, p.1, (0 : Int), p.2.2.1, p.2.2.2.1, p.2.2.2.2.1, p.2.2.2.2.2) else (spec_l04Words.f k p.2.2.1).bind fun r2 => (spec_l04K.f k).bind fun r3 => i6 ((0 : Int), p.2.2.2.2.2, r2, r3))
def spec_HashEnd.l2 (k : Nat) : Nat → (Int × Int × ByteArray × ByteArray × Int × (List (Int))) → Option (ByteArray)
  | 0 => fun _ => none
  | j + 1 => spec_HashEnd.s2 k (spec_HashEnd.l2 k j) (spec_HashEnd.l4 k (spec_HashEnd.l2 k j) k) (spec_HashEnd.l6 k k)
def spec_HashEnd.s0 (_k : Nat) (rec0 : (ByteArray × ByteArray × Int × (List (Int))) → Option (ByteArray)) (i2 : (Int × Int × ByteArray × ByteArray × Int × (List (Int))) → Option (ByteArray)) (p : (ByteArray × ByteArray × Int × (List (Int)))) : Option (ByteArray) :=
  (bif (((p.2.2.2.length : Int).tmod (64 : Int)) != (56 : Int)) then (bif decide ((p.2.2.2.length + [(0 : Int)].length) * 1 ≤ 140737488355328) then rec0 (p.1, p.2.1, p.2.2.1, (p.2.2.2 ++ [(0 : Int)])) else none) else i2 ((IntKind.i64.wrap ((8 : Int) * p.2.2.1)), (7 : Int), p.1, p.2.1, p.2.2.1, p.2.2.2))
def spec_HashEnd.l0 (k : Nat) : Nat → (ByteArray × ByteArray × Int × (List (Int))) → Option (ByteArray)
  | 0 => fun _ => none
  | j + 1 => spec_HashEnd.s0 k (spec_HashEnd.l0 k j) (spec_HashEnd.l2 k k)
def spec_HashEnd.S4 (p : (Int × Int × Int × Int × ByteArray × ByteArray × Int × (List (Int)))) : DS := ⟨tl [(1, .at (.bptr 16 0)), (3, .at (.whole 1104)), (4, .at (.int .i64 p.1)), (5, .at (.int .i64 p.2.1)), (6, .at (.int .i64 p.2.2.1)), (7, .at (.int .i64 p.2.2.2.1))], lookO [(16, .box 87 [.str p.2.2.2.2.1, .str p.2.2.2.2.2.1, .int .i64 p.2.2.2.2.2.2.1]), (1104, .row 5 (.int .u8) true p.2.2.2.2.2.2.2)]⟩
def spec_HashEnd.S6 (p : (Int × (List (Int)) × (List (Int)) × (List (Int)))) : DS := ⟨tl [(3, .at (.whole 1104)), (8, .at (.whole 1105)), (9, .at (.whole 1106)), (10, .at (.int .i64 p.1))], lookO [(1104, .row 5 (.int .u8) true p.2.1), (1105, .row 113 (.int .u32) true p.2.2.1), (1106, .row 113 (.int .u32) true p.2.2.2)]⟩
def spec_HashEnd.S2 (p : (Int × Int × ByteArray × ByteArray × Int × (List (Int)))) : DS := ⟨tl [(1, .at (.bptr 16 0)), (3, .at (.whole 1104)), (4, .at (.int .i64 p.1)), (5, .at (.int .i64 p.2.1))], lookO [(16, .box 87 [.str p.2.2.1, .str p.2.2.2.1, .int .i64 p.2.2.2.2.1]), (1104, .row 5 (.int .u8) true p.2.2.2.2.2)]⟩
def spec_HashEnd.S0 (p : (ByteArray × ByteArray × Int × (List (Int)))) : DS := ⟨tl [(1, .at (.bptr 16 0)), (3, .at (.whole 1104))], lookO [(16, .box 87 [.str p.1, .str p.2.1, .int .i64 p.2.2.1]), (1104, .row 5 (.int .u8) true p.2.2.2)]⟩
noncomputable def spec_HashEnd.D4 (k : Nat) (j2 : Nat) (j : Nat) (p : (Int × Int × Int × Int × ByteArray × ByteArray × Int × (List (Int)))) : Option (ByteArray) := loopK (normK [] (spec_HashEnd.h 4)) (runK spec_HashEnd.x k 0 [] spec_HashEnd.h 4 (sub spec_HashEnd.c [1, 1, 1, 1, 1, 1, 0, 1, 0, 0, 1, 0, 0, 1, 0, 1, 0, 0])) j (spec_HashEnd.S4 p) (kBlk 4 (kSeq (runK spec_HashEnd.x k 0 [] spec_HashEnd.h 3 (sub spec_HashEnd.c [1, 1, 1, 1, 1, 1, 0, 1, 0, 0, 1, 0, 0, 1, 1])) (kBlk 3 (kSeq (runK spec_HashEnd.x k 0 [] spec_HashEnd.h 2 (sub spec_HashEnd.c [1, 1, 1, 1, 1, 1, 0, 1, 0, 0, 1, 1])) (kSeq (fun s' K => normK [] (spec_HashEnd.h 2) s' fun s => loopK (normK [] (spec_HashEnd.h 2)) (runK spec_HashEnd.x k 0 [] spec_HashEnd.h 2 (sub spec_HashEnd.c [1, 1, 1, 1, 1, 1, 0, 1, 0, 0])) j2 s K) (kBlk 2 (kSeq (runK spec_HashEnd.x k 0 [] spec_HashEnd.h 0 (sub spec_HashEnd.c [1, 1, 1, 1, 1, 1, 1])) (fin tt spec_HashEnd.ps spec_HashEnd.rs spec_HashEnd.vs .str))))))))
noncomputable def spec_HashEnd.D6 (k : Nat) (j : Nat) (p : (Int × (List (Int)) × (List (Int)) × (List (Int)))) : Option (ByteArray) := loopK (normK [] (spec_HashEnd.h 6)) (runK spec_HashEnd.x k 0 [] spec_HashEnd.h 6 (sub spec_HashEnd.c [1, 1, 1, 1, 1, 1, 1, 1, 1, 0, 1, 0, 0])) j (spec_HashEnd.S6 p) (kBlk 6 (kSeq (runK spec_HashEnd.x k 0 [] spec_HashEnd.h 0 (sub spec_HashEnd.c [1, 1, 1, 1, 1, 1, 1, 1, 1, 1])) (fin tt spec_HashEnd.ps spec_HashEnd.rs spec_HashEnd.vs .str)))
noncomputable def spec_HashEnd.D2 (k : Nat) (j : Nat) (p : (Int × Int × ByteArray × ByteArray × Int × (List (Int)))) : Option (ByteArray) := loopK (normK [] (spec_HashEnd.h 2)) (runK spec_HashEnd.x k 0 [] spec_HashEnd.h 2 (sub spec_HashEnd.c [1, 1, 1, 1, 1, 1, 0, 1, 0, 0])) j (spec_HashEnd.S2 p) (kBlk 2 (kSeq (runK spec_HashEnd.x k 0 [] spec_HashEnd.h 0 (sub spec_HashEnd.c [1, 1, 1, 1, 1, 1, 1])) (fin tt spec_HashEnd.ps spec_HashEnd.rs spec_HashEnd.vs .str)))
noncomputable def spec_HashEnd.D0 (k : Nat) (j : Nat) (p : (ByteArray × ByteArray × Int × (List (Int)))) : Option (ByteArray) := loopK (normK [] (spec_HashEnd.h 0)) (runK spec_HashEnd.x k 0 [] spec_HashEnd.h 0 (sub spec_HashEnd.c [1, 1, 1, 1, 0, 0, 0])) j (spec_HashEnd.S0 p) (kBlk 0 (kSeq (runK spec_HashEnd.x k 0 [] spec_HashEnd.h 0 (sub spec_HashEnd.c [1, 1, 1, 1, 1])) (fin tt spec_HashEnd.ps spec_HashEnd.rs spec_HashEnd.vs .str)))
theorem spec_HashEnd.D4_eq (k : Nat) (j2 : Nat) : ∀ j, spec_HashEnd.D4 k j2 j = spec_HashEnd.l4 k (spec_HashEnd.D2 k j2) j := by
  intro j
  induction j with
  | zero => rfl
  | succ j ih =>
    show _ = spec_HashEnd.s4 k (spec_HashEnd.D2 k j2) (spec_HashEnd.l4 k (spec_HashEnd.D2 k j2) j)
    rw [← ih]
    funext p
    kernel_rfl
theorem spec_HashEnd.D6_eq (k : Nat) : ∀ j, spec_HashEnd.D6 k j = spec_HashEnd.l6 k j := by
  intro j
  induction j with
  | zero => rfl
  | succ j ih =>
    show _ = spec_HashEnd.s6 k (spec_HashEnd.l6 k j)
    rw [← ih]
    funext p
    kernel_rfl
theorem spec_HashEnd.D2_eq (k : Nat) : ∀ j, spec_HashEnd.D2 k j = spec_HashEnd.l2 k j := by
  intro j
  induction j with
  | zero => rfl
  | succ j ih =>
    show _ = spec_HashEnd.s2 k (spec_HashEnd.l2 k j) (spec_HashEnd.l4 k (spec_HashEnd.l2 k j) k) (spec_HashEnd.l6 k k)
    rw [← ih, ← spec_HashEnd.D4_eq k j k, ← spec_HashEnd.D6_eq k k]
    funext p
    kernel_rfl
theorem spec_HashEnd.D0_eq (k : Nat) : ∀ j, spec_HashEnd.D0 k j = spec_HashEnd.l0 k j := by
  intro j
  induction j with
  | zero => rfl
  | succ j ih =>
    show _ = spec_HashEnd.s0 k (spec_HashEnd.l0 k j) (spec_HashEnd.l2 k k)
    rw [← ih, ← spec_HashEnd.D2_eq k k]
    funext p
    kernel_rfl
def spec_HashEnd.f (k : Nat) (a0_0 : ByteArray) (a0_1 : ByteArray) (a0_2 : Int) : Option (ByteArray) :=
  (spec_HasherOk.f k a0_0 a0_1 a0_2).bind fun r1 => (bif (!r1) then some ByteArray.empty else (bif decide (((numsOf a0_1).length + [(128 : Int)].length) * 1 ≤ 140737488355328) then spec_HashEnd.l0 k k (a0_0, a0_1, a0_2, ((numsOf a0_1) ++ [(128 : Int)])) else none))
def spec_HashEnd.K : Ctr := ⟨spec_HashEnd.ps, spec_HashEnd.rs, false, (.two .str (.two .str (.int .i64))), .str, fun k x => spec_HashEnd.f k x.1 x.2.1 x.2.2⟩
theorem spec_HashEnd.eq (k : Nat) (x : (spec_HashEnd.K.I).den) : func spec_HashEnd.x spec_HashEnd.h spec_HashEnd.ps spec_HashEnd.rs spec_HashEnd.vs spec_HashEnd.K.I spec_HashEnd.K.O spec_HashEnd.c k x = spec_HashEnd.K.run k x := by
  show _ = spec_HashEnd.f k x.1 x.2.1 x.2.2
  unfold spec_HashEnd.f
  rw [← spec_HashEnd.D0_eq k k]
  kernel_rfl
theorem spec_HashEnd.ok : CtrOk Try.prog 77 spec_HashEnd.K :=
  CtrOk.of (fn := Try.f77) (cd := spec_HashEnd.c) (cx := spec_HashEnd.x) (hs := spec_HashEnd.h) (by kernel_rfl) (by kernel_rfl) (by kernel_rfl) (by kernel_rfl) tt_ok (envOk_cons spec_HasherOk.ok (envOk_cons spec_l04Words.ok (envOk_cons spec_l04K.ok (envOk_cons spec_l04Round.ok (envOk_cons spec_l04Bytes.ok (envOk_nil)))))) (by kernel_rfl) (by kernel_rfl) (by kernel_rfl) (by kernel_rfl) fun k x r h => (spec_HashEnd.eq k x).trans h
/-! spec.DigestOf -/
noncomputable def spec_DigestOf.c : Code := bodyOf Try.f61
def spec_DigestOf.h : Nat → Hint := look ⟨[], [], []⟩ []
def spec_DigestOf.ps : List PK := [.one]
def spec_DigestOf.rs : List RK := [.one true]
def spec_DigestOf.vs : List ResultVar := [.tmp 2]
def spec_DigestOf.x : Cx := ⟨tt, look none [(79, some spec_HasherNew.K), (78, some spec_HashMore.K), (77, some spec_HashEnd.K)]⟩
def spec_DigestOf.f (k : Nat) (a0 : ByteArray) : Option (ByteArray) :=
  (spec_HasherNew.f k).bind fun r1 => (spec_HashMore.f k r1.1 r1.2.1 r1.2.2 a0).bind fun r2 => (spec_HashEnd.f k r2.1 r2.2.1 r2.2.2).bind fun r3 => some r3
def spec_DigestOf.K : Ctr := ⟨spec_DigestOf.ps, spec_DigestOf.rs, false, .str, .str, fun k x => spec_DigestOf.f k x⟩
theorem spec_DigestOf.eq (k : Nat) (x : (spec_DigestOf.K.I).den) : func spec_DigestOf.x spec_DigestOf.h spec_DigestOf.ps spec_DigestOf.rs spec_DigestOf.vs spec_DigestOf.K.I spec_DigestOf.K.O spec_DigestOf.c k x = spec_DigestOf.K.run k x := by
  show _ = spec_DigestOf.f k x
  kernel_rfl
theorem spec_DigestOf.ok : CtrOk Try.prog 61 spec_DigestOf.K :=
  CtrOk.of (fn := Try.f61) (cd := spec_DigestOf.c) (cx := spec_DigestOf.x) (hs := spec_DigestOf.h) (by kernel_rfl) (by kernel_rfl) (by kernel_rfl) (by kernel_rfl) tt_ok (envOk_cons spec_HasherNew.ok (envOk_cons spec_HashMore.ok (envOk_cons spec_HashEnd.ok (envOk_nil)))) (by kernel_rfl) (by kernel_rfl) (by kernel_rfl) (by kernel_rfl) fun k x r h => (spec_DigestOf.eq k x).trans h
/-! spec.ReadNumber -/
noncomputable def spec_ReadNumber.c : Code := bodyOf Try.f66
def spec_ReadNumber.h : Nat → Hint := look ⟨[], [], []⟩ []
def spec_ReadNumber.ps : List PK := [.one]
def spec_ReadNumber.rs : List RK := [.one true, .one true]
def spec_ReadNumber.vs : List ResultVar := [.tmp 2, .tmp 3]
def spec_ReadNumber.x : Cx := ⟨tt, look none []⟩
def spec_ReadNumber.f (_k : Nat) (a0 : ByteArray) : Option (Int × Bool) :=
  (bif ((a0.size : Int) != (4 : Int)) then some ((0 : Int), false) else (a0[0]?).bind fun c1 => (a0[1]?).bind fun c2 => (a0[2]?).bind fun c3 => (a0[3]?).bind fun c4 => some ((IntKind.i64.wrap ((IntKind.i64.wrap ((IntKind.i64.wrap ((IntKind.i64.wrap ((IntKind.i64.wrap (c1.toNat : Int)) * (16777216 : Int))) + (IntKind.i64.wrap ((IntKind.i64.wrap (c2.toNat : Int)) * (65536 : Int))))) + (IntKind.i64.wrap ((IntKind.i64.wrap (c3.toNat : Int)) * (256 : Int))))) + (IntKind.i64.wrap (c4.toNat : Int)))), true))
def spec_ReadNumber.K : Ctr := ⟨spec_ReadNumber.ps, spec_ReadNumber.rs, false, .str, (.two (.int .i64) .bool), fun k x => spec_ReadNumber.f k x⟩
theorem spec_ReadNumber.eq (k : Nat) (x : (spec_ReadNumber.K.I).den) : func spec_ReadNumber.x spec_ReadNumber.h spec_ReadNumber.ps spec_ReadNumber.rs spec_ReadNumber.vs spec_ReadNumber.K.I spec_ReadNumber.K.O spec_ReadNumber.c k x = spec_ReadNumber.K.run k x := by
  show _ = spec_ReadNumber.f k x
  kernel_rfl
theorem spec_ReadNumber.ok : CtrOk Try.prog 66 spec_ReadNumber.K :=
  CtrOk.of (fn := Try.f66) (cd := spec_ReadNumber.c) (cx := spec_ReadNumber.x) (hs := spec_ReadNumber.h) (by kernel_rfl) (by kernel_rfl) (by kernel_rfl) (by kernel_rfl) tt_ok (envOk_nil) (by kernel_rfl) (by kernel_rfl) (by kernel_rfl) (by kernel_rfl) fun k x r h => (spec_ReadNumber.eq k x).trans h
/-! spec.l07First -/
noncomputable def spec_l07First.c : Code := bodyOf Try.f60
def spec_l07First.h : Nat → Hint := look ⟨[], [], []⟩ []
def spec_l07First.ps : List PK := [.one]
def spec_l07First.rs : List RK := [.one true]
def spec_l07First.vs : List ResultVar := [.tmp 2]
def spec_l07First.x : Cx := ⟨tt, look none [(66, some spec_ReadNumber.K)]⟩
def spec_l07First.f (k : Nat) (a0 : ByteArray) : Option (Int) :=
  (bif (true && (decide ((4 : Int) ≤ (a0.size : Int)))) then (spec_ReadNumber.f k (a0.extract 0 4)).bind fun r1 => some r1.1 else none)
def spec_l07First.K : Ctr := ⟨spec_l07First.ps, spec_l07First.rs, false, .str, (.int .i64), fun k x => spec_l07First.f k x⟩
theorem spec_l07First.eq (k : Nat) (x : (spec_l07First.K.I).den) : func spec_l07First.x spec_l07First.h spec_l07First.ps spec_l07First.rs spec_l07First.vs spec_l07First.K.I spec_l07First.K.O spec_l07First.c k x = spec_l07First.K.run k x := by
  show _ = spec_l07First.f k x
  kernel_rfl
theorem spec_l07First.ok : CtrOk Try.prog 60 spec_l07First.K :=
  CtrOk.of (fn := Try.f60) (cd := spec_l07First.c) (cx := spec_l07First.x) (hs := spec_l07First.h) (by kernel_rfl) (by kernel_rfl) (by kernel_rfl) (by kernel_rfl) tt_ok (envOk_cons spec_ReadNumber.ok (envOk_nil)) (by kernel_rfl) (by kernel_rfl) (by kernel_rfl) (by kernel_rfl) fun k x r h => (spec_l07First.eq k x).trans h
/-! spec.SecretOf -/
noncomputable def spec_SecretOf.c : Code := bodyOf Try.f33
def spec_SecretOf.h : Nat → Hint := look ⟨[], [], []⟩ []
def spec_SecretOf.ps : List PK := [.one]
def spec_SecretOf.rs : List RK := [.one true]
def spec_SecretOf.vs : List ResultVar := [.tmp 2]
def spec_SecretOf.x : Cx := ⟨tt, look none [(61, some spec_DigestOf.K), (60, some spec_l07First.K)]⟩
def spec_SecretOf.f (k : Nat) (a0 : ByteArray) : Option (Int) :=
  (bif decide (a0.size + (⟨#[115]⟩ : ByteArray).size ≤ 140737488351232) then (spec_DigestOf.f k (a0 ++ (⟨#[115]⟩ : ByteArray))).bind fun r1 => (spec_l07First.f k r1).bind fun r2 => some (IntKind.i64.wrap ((1 : Int) + (r2.tmod (1073741788 : Int)))) else none)
def spec_SecretOf.K : Ctr := ⟨spec_SecretOf.ps, spec_SecretOf.rs, false, .str, (.int .i64), fun k x => spec_SecretOf.f k x⟩
theorem spec_SecretOf.eq (k : Nat) (x : (spec_SecretOf.K.I).den) : func spec_SecretOf.x spec_SecretOf.h spec_SecretOf.ps spec_SecretOf.rs spec_SecretOf.vs spec_SecretOf.K.I spec_SecretOf.K.O spec_SecretOf.c k x = spec_SecretOf.K.run k x := by
  show _ = spec_SecretOf.f k x
  kernel_rfl
theorem spec_SecretOf.ok : CtrOk Try.prog 33 spec_SecretOf.K :=
  CtrOk.of (fn := Try.f33) (cd := spec_SecretOf.c) (cx := spec_SecretOf.x) (hs := spec_SecretOf.h) (by kernel_rfl) (by kernel_rfl) (by kernel_rfl) (by kernel_rfl) tt_ok (envOk_cons spec_DigestOf.ok (envOk_cons spec_l07First.ok (envOk_nil))) (by kernel_rfl) (by kernel_rfl) (by kernel_rfl) (by kernel_rfl) fun k x r h => (spec_SecretOf.eq k x).trans h
/-! spec.Challenge -/
noncomputable def spec_Challenge.c : Code := bodyOf Try.f63
def spec_Challenge.h : Nat → Hint := look ⟨[], [], []⟩ []
def spec_Challenge.ps : List PK := [.one, .one, .one]
def spec_Challenge.rs : List RK := [.one true]
def spec_Challenge.vs : List ResultVar := [.tmp 6]
def spec_Challenge.x : Cx := ⟨tt, look none [(31, some spec_l01In.K), (27, some spec_NumberText.K), (61, some spec_DigestOf.K), (60, some spec_l07First.K)]⟩
def spec_Challenge.f (k : Nat) (a0 : Int) (a1 : Int) (a2 : ByteArray) : Option (Int) :=
  (spec_l01In.f k a0 (0 : Int) (4294967295 : Int)).bind fun r1 => (bif (!r1) then some (0 : Int) else (spec_l01In.f k a1 (0 : Int) (4294967295 : Int)).bind fun r2 => (bif (!r2) then some (0 : Int) else (spec_NumberText.f k a0).bind fun r3 => (spec_NumberText.f k a1).bind fun r4 => (bif decide (r3.size + r4.size ≤ 140737488351232) then (bif decide ((r3 ++ r4).size + a2.size ≤ 140737488351232) then (spec_DigestOf.f k ((r3 ++ r4) ++ a2)).bind fun r5 => (spec_l07First.f k r5).bind fun r6 => some (r6.tmod (1073741789 : Int)) else none) else none)))
def spec_Challenge.K : Ctr := ⟨spec_Challenge.ps, spec_Challenge.rs, false, (.two (.int .i64) (.two (.int .i64) .str)), (.int .i64), fun k x => spec_Challenge.f k x.1 x.2.1 x.2.2⟩
theorem spec_Challenge.eq (k : Nat) (x : (spec_Challenge.K.I).den) : func spec_Challenge.x spec_Challenge.h spec_Challenge.ps spec_Challenge.rs spec_Challenge.vs spec_Challenge.K.I spec_Challenge.K.O spec_Challenge.c k x = spec_Challenge.K.run k x := by
  show _ = spec_Challenge.f k x.1 x.2.1 x.2.2
  kernel_rfl
theorem spec_Challenge.ok : CtrOk Try.prog 63 spec_Challenge.K :=
  CtrOk.of (fn := Try.f63) (cd := spec_Challenge.c) (cx := spec_Challenge.x) (hs := spec_Challenge.h) (by kernel_rfl) (by kernel_rfl) (by kernel_rfl) (by kernel_rfl) tt_ok (envOk_cons spec_l01In.ok (envOk_cons spec_NumberText.ok (envOk_cons spec_DigestOf.ok (envOk_cons spec_l07First.ok (envOk_nil))))) (by kernel_rfl) (by kernel_rfl) (by kernel_rfl) (by kernel_rfl) fun k x r h => (spec_Challenge.eq k x).trans h
/-! spec.SignText -/
noncomputable def spec_SignText.c : Code := bodyOf Try.f37
def spec_SignText.h : Nat → Hint := look ⟨[], [], []⟩ []
def spec_SignText.ps : List PK := [.one, .one]
def spec_SignText.rs : List RK := [.agg 2 true, .one true]
def spec_SignText.vs : List ResultVar := [.cell 4 54, .tmp 5]
def spec_SignText.x : Cx := ⟨tt, look none [(31, some spec_l01In.K), (27, some spec_NumberText.K), (33, some spec_SecretOf.K), (57, some spec_PowP.K), (25, some spec_PublicOf.K), (63, some spec_Challenge.K)]⟩
def spec_SignText.f (k : Nat) (a0 : Int) (a1 : ByteArray) : Option (Int × Int × Bool) :=
  (spec_l01In.f k a0 (1 : Int) (1073741788 : Int)).bind fun r1 => (bif (!r1) then some ((0 : Int), (0 : Int), false) else (spec_NumberText.f k a0).bind fun r2 => (bif decide (r2.size + a1.size ≤ 140737488351232) then (spec_SecretOf.f k (r2 ++ a1)).bind fun r3 => (spec_PowP.f k (4 : Int) r3).bind fun r4 => (spec_PublicOf.f k a0).bind fun r5 => (spec_Challenge.f k r4 r5 a1).bind fun r6 => some (r6, ((IntKind.i64.wrap (r3 + ((IntKind.i64.wrap (r6 * a0)).tmod (1073741789 : Int)))).tmod (1073741789 : Int)), true) else none))
def spec_SignText.K : Ctr := ⟨spec_SignText.ps, spec_SignText.rs, false, (.two (.int .i64) .str), (.two (.int .i64) (.two (.int .i64) .bool)), fun k x => spec_SignText.f k x.1 x.2⟩
theorem spec_SignText.eq (k : Nat) (x : (spec_SignText.K.I).den) : func spec_SignText.x spec_SignText.h spec_SignText.ps spec_SignText.rs spec_SignText.vs spec_SignText.K.I spec_SignText.K.O spec_SignText.c k x = spec_SignText.K.run k x := by
  show _ = spec_SignText.f k x.1 x.2
  kernel_rfl
theorem spec_SignText.ok : CtrOk Try.prog 37 spec_SignText.K :=
  CtrOk.of (fn := Try.f37) (cd := spec_SignText.c) (cx := spec_SignText.x) (hs := spec_SignText.h) (by kernel_rfl) (by kernel_rfl) (by kernel_rfl) (by kernel_rfl) tt_ok (envOk_cons spec_l01In.ok (envOk_cons spec_NumberText.ok (envOk_cons spec_SecretOf.ok (envOk_cons spec_PowP.ok (envOk_cons spec_PublicOf.ok (envOk_cons spec_Challenge.ok (envOk_nil))))))) (by kernel_rfl) (by kernel_rfl) (by kernel_rfl) (by kernel_rfl) fun k x r h => (spec_SignText.eq k x).trans h
/-! spec.SigText -/
noncomputable def spec_SigText.c : Code := bodyOf Try.f39
def spec_SigText.h : Nat → Hint := look ⟨[], [], []⟩ []
def spec_SigText.ps : List PK := [.agg 2]
def spec_SigText.rs : List RK := [.one true, .one true]
def spec_SigText.vs : List ResultVar := [.tmp 2, .tmp 3]
def spec_SigText.x : Cx := ⟨tt, look none [(31, some spec_l01In.K), (27, some spec_NumberText.K)]⟩
def spec_SigText.f (k : Nat) (a0_0 : Int) (a0_1 : Int) : Option (ByteArray × Bool) :=
  (spec_l01In.f k a0_0 (0 : Int) (1073741788 : Int)).bind fun r1 => (bif (!r1) then some (ByteArray.empty, false) else (spec_l01In.f k a0_1 (0 : Int) (1073741788 : Int)).bind fun r2 => (bif (!r2) then some (ByteArray.empty, false) else (spec_NumberText.f k a0_0).bind fun r3 => (spec_NumberText.f k a0_1).bind fun r4 => (bif decide (r3.size + r4.size ≤ 140737488351232) then some ((r3 ++ r4), true) else none)))
def spec_SigText.K : Ctr := ⟨spec_SigText.ps, spec_SigText.rs, false, (.two (.int .i64) (.int .i64)), (.two .str .bool), fun k x => spec_SigText.f k x.1 x.2⟩
theorem spec_SigText.eq (k : Nat) (x : (spec_SigText.K.I).den) : func spec_SigText.x spec_SigText.h spec_SigText.ps spec_SigText.rs spec_SigText.vs spec_SigText.K.I spec_SigText.K.O spec_SigText.c k x = spec_SigText.K.run k x := by
  show _ = spec_SigText.f k x.1 x.2
  kernel_rfl
theorem spec_SigText.ok : CtrOk Try.prog 39 spec_SigText.K :=
  CtrOk.of (fn := Try.f39) (cd := spec_SigText.c) (cx := spec_SigText.x) (hs := spec_SigText.h) (by kernel_rfl) (by kernel_rfl) (by kernel_rfl) (by kernel_rfl) tt_ok (envOk_cons spec_l01In.ok (envOk_cons spec_NumberText.ok (envOk_nil))) (by kernel_rfl) (by kernel_rfl) (by kernel_rfl) (by kernel_rfl) fun k x r h => (spec_SigText.eq k x).trans h
/-! spec.Proof -/
noncomputable def spec_Proof.c : Code := bodyOf Try.f16
def spec_Proof.h : Nat → Hint := look ⟨[], [], []⟩ []
def spec_Proof.ps : List PK := [.agg 7]
def spec_Proof.rs : List RK := [.one true]
def spec_Proof.vs : List ResultVar := [.tmp 2]
def spec_Proof.x : Cx := ⟨tt, look none [(38, some spec_Transcript.K), (26, some spec_l05Byte.K), (37, some spec_SignText.K), (39, some spec_SigText.K)]⟩
def spec_Proof.f (k : Nat) (a0_0 : Int) (a0_1 : Int) (a0_2 : Int) (a0_3 : Int) (a0_4 : Int) (a0_5 : ByteArray) (a0_6 : ByteArray) : Option (ByteArray) :=
  (bif (a0_4 != (2 : Int)) then (bif (a0_4 != (3 : Int)) then some ByteArray.empty else (spec_Transcript.f k a0_0 a0_1 a0_2 a0_3 a0_4 a0_5 a0_6).bind fun r1 => (spec_l05Byte.f k a0_0).bind fun r2 => (bif decide (r1.size + r2.size ≤ 140737488351232) then (spec_SignText.f k a0_1 (r1 ++ r2)).bind fun r3 => (spec_SigText.f k r3.1 r3.2.1).bind fun r4 => (bif decide ((⟨#[112]⟩ : ByteArray).size + r4.1.size ≤ 140737488351232) then some ((⟨#[112]⟩ : ByteArray) ++ r4.1) else none) else none)) else (spec_Transcript.f k a0_0 a0_1 a0_2 a0_3 a0_4 a0_5 a0_6).bind fun r5 => (spec_l05Byte.f k a0_0).bind fun r6 => (bif decide (r5.size + r6.size ≤ 140737488351232) then (spec_SignText.f k a0_1 (r5 ++ r6)).bind fun r7 => (spec_SigText.f k r7.1 r7.2.1).bind fun r8 => (bif decide ((⟨#[112]⟩ : ByteArray).size + r8.1.size ≤ 140737488351232) then some ((⟨#[112]⟩ : ByteArray) ++ r8.1) else none) else none))
def spec_Proof.K : Ctr := ⟨spec_Proof.ps, spec_Proof.rs, false, (.two (.int .i64) (.two (.int .i64) (.two (.int .i64) (.two (.int .i64) (.two (.int .i64) (.two .str .str)))))), .str, fun k x => spec_Proof.f k x.1 x.2.1 x.2.2.1 x.2.2.2.1 x.2.2.2.2.1 x.2.2.2.2.2.1 x.2.2.2.2.2.2⟩
theorem spec_Proof.eq (k : Nat) (x : (spec_Proof.K.I).den) : func spec_Proof.x spec_Proof.h spec_Proof.ps spec_Proof.rs spec_Proof.vs spec_Proof.K.I spec_Proof.K.O spec_Proof.c k x = spec_Proof.K.run k x := by
  show _ = spec_Proof.f k x.1 x.2.1 x.2.2.1 x.2.2.2.1 x.2.2.2.2.1 x.2.2.2.2.2.1 x.2.2.2.2.2.2
  kernel_rfl
theorem spec_Proof.ok : CtrOk Try.prog 16 spec_Proof.K :=
  CtrOk.of (fn := Try.f16) (cd := spec_Proof.c) (cx := spec_Proof.x) (hs := spec_Proof.h) (by kernel_rfl) (by kernel_rfl) (by kernel_rfl) (by kernel_rfl) tt_ok (envOk_cons spec_Transcript.ok (envOk_cons spec_l05Byte.ok (envOk_cons spec_SignText.ok (envOk_cons spec_SigText.ok (envOk_nil))))) (by kernel_rfl) (by kernel_rfl) (by kernel_rfl) (by kernel_rfl) fun k x r h => (spec_Proof.eq k x).trans h
/-! laws.FnCalmGreets -/
noncomputable def laws_FnCalmGreets.c : Code := bodyOf Try.f8
def laws_FnCalmGreets.h : Nat → Hint := look ⟨[], [], []⟩ []
def laws_FnCalmGreets.ps : List PK := [.one]
def laws_FnCalmGreets.rs : List RK := [.one true]
def laws_FnCalmGreets.vs : List ResultVar := [.tmp 2]
def laws_FnCalmGreets.x : Cx := ⟨tt, look none [(22, some laws_big.K), (23, some spec_DrawSeeds.K), (24, some impl_Greeting.K), (25, some spec_PublicOf.K), (15, some impl_GreeterNew.K), (12, some impl_Hello.K), (21, some impl_HearGreet.K), (17, some impl_Proof.K), (16, some spec_Proof.K)]⟩
def laws_FnCalmGreets.f (k : Nat) (a0 : List (Int)) : Option (Bool) :=
  (laws_big.f k a0).bind fun r1 => (bif r1 then some true else (spec_DrawSeeds.f k a0).bind fun r2 => (impl_Greeting.f k r2.1 [(0 : Int), (1 : Int), (0 : Int), (1 : Int)]).bind fun r3 => (bif (true && (decide ((0 : Int) < (r2.1.length : Int)))) then (r2.1[0]?).bind fun x4 => (bif (true && (decide ((1 : Int) < (r2.1.length : Int)))) then (r2.1[1]?).bind fun x5 => (spec_PublicOf.f k (5 : Int)).bind fun r6 => (impl_GreeterNew.f k (1 : Int) x4 x5 r6).bind fun r7 => (impl_Hello.f k r7.1 r7.2.1 r7.2.2.1 r7.2.2.2.1 r7.2.2.2.2.1 r7.2.2.2.2.2.1 r7.2.2.2.2.2.2.1).bind fun r8 => (impl_Hello.f k r8.1 r8.2.1 r8.2.2.1 r8.2.2.2.1 r8.2.2.2.2.1 r8.2.2.2.2.2.1 r8.2.2.2.2.2.2.1).bind fun r9 => (bif (true && (decide ((0 : Int) < (r2.1.length : Int)))) then (r2.1[0]?).bind fun x10 => (bif (true && (decide ((1 : Int) < (r2.1.length : Int)))) then (r2.1[1]?).bind fun x11 => (impl_GreeterNew.f k (1 : Int) x10 x11 (0 : Int)).bind fun r12 => (impl_HearGreet.f k r8.1 r8.2.1 r8.2.2.1 r8.2.2.2.1 r8.2.2.2.2.1 r8.2.2.2.2.2.1 r8.2.2.2.2.2.2.1 (⟨#[119, 104, 97, 116]⟩ : ByteArray)).bind fun r13 => (bif r3.2 then (bif (true && (decide ((0 : Int) < (r3.1.length : Int)))) then (r3.1[0]?).bind fun x14 => (bif (x14.2.2.2.2.1 == (3 : Int)) then (bif (true && (decide ((1 : Int) < (r3.1.length : Int)))) then (r3.1[1]?).bind fun x15 => (bif (x15.2.2.2.2.1 == (3 : Int)) then (bif r7.2.2.2.2.2.2.2 then (bif ((r8.2.2.2.2.2.2.2.size : Int) == (6 : Int)) then (bif (r9.2.2.2.2.2.2.2.toList == ByteArray.empty.toList) then (bif (!r12.2.2.2.2.2.2.2) then (bif (r13.2.2.2.2.1 == (4 : Int)) then (bif (r13.2.2.2.2.2.2.2.toList == ByteArray.empty.toList) then (bif (true && (decide ((0 : Int) < (r3.1.length : Int)))) then (r3.1[0]?).bind fun x16 => (impl_Proof.f k x16.1 x16.2.1 x16.2.2.1 x16.2.2.2.1 x16.2.2.2.2.1 x16.2.2.2.2.2.1 x16.2.2.2.2.2.2).bind fun r17 => (bif (true && (decide ((0 : Int) < (r3.1.length : Int)))) then (r3.1[0]?).bind fun x18 => (spec_Proof.f k x18.1 x18.2.1 x18.2.2.1 x18.2.2.2.1 x18.2.2.2.2.1 x18.2.2.2.2.2.1 x18.2.2.2.2.2.2).bind fun r19 => (bif (r17.toList == r19.toList) then (impl_Proof.f k r8.1 r8.2.1 r8.2.2.1 r8.2.2.2.1 r8.2.2.2.2.1 r8.2.2.2.2.2.1 r8.2.2.2.2.2.2.1).bind fun r20 => some (r20.toList == ByteArray.empty.toList) else some false) else none) else none) else some false) else some false) else some false) else some false) else some false) else some false) else some false) else none) else some false) else none) else some false) else none) else none) else none) else none))
def laws_FnCalmGreets.K : Ctr := ⟨laws_FnCalmGreets.ps, laws_FnCalmGreets.rs, false, (.sl 5 (.int .u8)), .bool, fun k x => laws_FnCalmGreets.f k x⟩
theorem laws_FnCalmGreets.eq (k : Nat) (x : (laws_FnCalmGreets.K.I).den) : func laws_FnCalmGreets.x laws_FnCalmGreets.h laws_FnCalmGreets.ps laws_FnCalmGreets.rs laws_FnCalmGreets.vs laws_FnCalmGreets.K.I laws_FnCalmGreets.K.O laws_FnCalmGreets.c k x = laws_FnCalmGreets.K.run k x := by
  show _ = laws_FnCalmGreets.f k x
  kernel_rfl
theorem laws_FnCalmGreets.ok : CtrOk Try.prog 8 laws_FnCalmGreets.K :=
  CtrOk.of (fn := Try.f8) (cd := laws_FnCalmGreets.c) (cx := laws_FnCalmGreets.x) (hs := laws_FnCalmGreets.h) (by kernel_rfl) (by kernel_rfl) (by kernel_rfl) (by kernel_rfl) tt_ok (envOk_cons laws_big.ok (envOk_cons spec_DrawSeeds.ok (envOk_cons impl_Greeting.ok (envOk_cons spec_PublicOf.ok (envOk_cons impl_GreeterNew.ok (envOk_cons impl_Hello.ok (envOk_cons impl_HearGreet.ok (envOk_cons impl_Proof.ok (envOk_cons spec_Proof.ok (envOk_nil)))))))))) (by kernel_rfl) (by kernel_rfl) (by kernel_rfl) (by kernel_rfl) fun k x r h => (laws_FnCalmGreets.eq k x).trans h
end Go.Proofs.Ytpinehfjimphmaa.DI
