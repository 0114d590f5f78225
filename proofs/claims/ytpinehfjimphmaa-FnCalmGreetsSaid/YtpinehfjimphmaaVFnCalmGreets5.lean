/- FnCalmGreets: functions as plain Lean, in the machine of values. -/
import Derived.Test.YtpinehfjimphmaaVFnCalmGreets4
namespace Go.Proofs.Ytpinehfjimphmaa.DI
open Go
set_option linter.unusedVariables false
/-! spec.HasherNew -/
noncomputable def spec_HasherNew.c : Code := bodyOf Try.f79
def spec_HasherNew.h : Nat → Hint := look ⟨[], [], []⟩ []
def spec_HasherNew.ps : List PK := []
def spec_HasherNew.rs : List RK := [.agg 3 true]
def spec_HasherNew.vs : List ResultVar := [.cell 0 87]
def spec_HasherNew.x : Cx := ⟨tt, look none [(90, some spec_l04First.K), (89, some spec_l04Bytes.K)]⟩
def spec_HasherNew.f (k : Nat) : Option (ByteArray × ByteArray × Int) :=
  (spec_l04First.f k).bind fun r1 => (spec_l04Bytes.f k r1).bind fun r2 => some (r2, ByteArray.empty, (0 : Int))
def spec_HasherNew.K : Ctr := ⟨spec_HasherNew.ps, spec_HasherNew.rs, false, .unit, (.two .str (.two .str (.int .i64))), fun k _ => spec_HasherNew.f k⟩
theorem spec_HasherNew.eq (k : Nat) (x : (spec_HasherNew.K.I).den) : func spec_HasherNew.x spec_HasherNew.h spec_HasherNew.ps spec_HasherNew.rs spec_HasherNew.vs spec_HasherNew.K.I spec_HasherNew.K.O spec_HasherNew.c k x = spec_HasherNew.K.run k x := by
  show _ = spec_HasherNew.f k
  kernel_rfl
theorem spec_HasherNew.ok : CtrOk Try.prog 79 spec_HasherNew.K :=
  CtrOk.of (fn := Try.f79) (cd := spec_HasherNew.c) (cx := spec_HasherNew.x) (hs := spec_HasherNew.h) (by kernel_rfl) (by kernel_rfl) (by kernel_rfl) (by kernel_rfl) tt_ok (envOk_cons spec_l04First.ok (envOk_cons spec_l04Bytes.ok (envOk_nil))) (by kernel_rfl) (by kernel_rfl) (by kernel_rfl) (by kernel_rfl) fun k x r h => (spec_HasherNew.eq k x).trans h
/-! spec.HasherOk -/
noncomputable def spec_HasherOk.c : Code := bodyOf Try.f85
def spec_HasherOk.h : Nat → Hint := look ⟨[], [], []⟩ []
def spec_HasherOk.ps : List PK := [.agg 3]
def spec_HasherOk.rs : List RK := [.one true]
def spec_HasherOk.vs : List ResultVar := [.tmp 2]
def spec_HasherOk.x : Cx := ⟨tt, look none [(31, some spec_l01In.K)]⟩
def spec_HasherOk.f (k : Nat) (a0_0 : ByteArray) (a0_1 : ByteArray) (a0_2 : Int) : Option (Bool) :=
  (bif ((a0_0.size : Int) == (32 : Int)) then (bif (decide ((a0_1.size : Int) < (64 : Int))) then (spec_l01In.f k a0_2 (0 : Int) (1000000000 : Int)).bind fun r1 => (bif r1 then some ((a0_2.tmod (64 : Int)) == (a0_1.size : Int)) else some false) else some false) else some false)
def spec_HasherOk.K : Ctr := ⟨spec_HasherOk.ps, spec_HasherOk.rs, false, (.two .str (.two .str (.int .i64))), .bool, fun k x => spec_HasherOk.f k x.1 x.2.1 x.2.2⟩
theorem spec_HasherOk.eq (k : Nat) (x : (spec_HasherOk.K.I).den) : func spec_HasherOk.x spec_HasherOk.h spec_HasherOk.ps spec_HasherOk.rs spec_HasherOk.vs spec_HasherOk.K.I spec_HasherOk.K.O spec_HasherOk.c k x = spec_HasherOk.K.run k x := by
  show _ = spec_HasherOk.f k x.1 x.2.1 x.2.2
  kernel_rfl
theorem spec_HasherOk.ok : CtrOk Try.prog 85 spec_HasherOk.K :=
  CtrOk.of (fn := Try.f85) (cd := spec_HasherOk.c) (cx := spec_HasherOk.x) (hs := spec_HasherOk.h) (by kernel_rfl) (by kernel_rfl) (by kernel_rfl) (by kernel_rfl) tt_ok (envOk_cons spec_l01In.ok (envOk_nil)) (by kernel_rfl) (by kernel_rfl) (by kernel_rfl) (by kernel_rfl) fun k x r h => (spec_HasherOk.eq k x).trans h
/-! spec.l04Word -/
noncomputable def spec_l04Word.c : Code := bodyOf Try.f100
def spec_l04Word.h : Nat → Hint := look ⟨[], [], []⟩ []
def spec_l04Word.ps : List PK := [.one, .one]
def spec_l04Word.rs : List RK := [.one true]
def spec_l04Word.vs : List ResultVar := [.tmp 4]
def spec_l04Word.x : Cx := ⟨tt, look none []⟩
def spec_l04Word.f (_k : Nat) (a0 : ByteArray) (a1 : Int) : Option (Int) :=
  (bif (decide ((0 : Int) ≤ a1)) then (a0[a1.toNat]?).bind fun c1 => (bif (decide ((0 : Int) ≤ (IntKind.i64.wrap (a1 + (1 : Int))))) then (a0[(IntKind.i64.wrap (a1 + (1 : Int))).toNat]?).bind fun c2 => (bif (decide ((0 : Int) ≤ (IntKind.i64.wrap (a1 + (2 : Int))))) then (a0[(IntKind.i64.wrap (a1 + (2 : Int))).toNat]?).bind fun c3 => (bif (decide ((0 : Int) ≤ (IntKind.i64.wrap (a1 + (3 : Int))))) then (a0[(IntKind.i64.wrap (a1 + (3 : Int))).toNat]?).bind fun c4 => some (IntKind.u32.wrap ((IntKind.u32.wrap ((IntKind.u32.wrap ((IntKind.u32.wrap ((IntKind.u32.wrap (c1.toNat : Int)) * (16777216 : Int))) + (IntKind.u32.wrap ((IntKind.u32.wrap (c2.toNat : Int)) * (65536 : Int))))) + (IntKind.u32.wrap ((IntKind.u32.wrap (c3.toNat : Int)) * (256 : Int))))) + (IntKind.u32.wrap (c4.toNat : Int)))) else none) else none) else none) else none)
def spec_l04Word.K : Ctr := ⟨spec_l04Word.ps, spec_l04Word.rs, false, (.two .str (.int .i64)), (.int .u32), fun k x => spec_l04Word.f k x.1 x.2⟩
theorem spec_l04Word.eq (k : Nat) (x : (spec_l04Word.K.I).den) : func spec_l04Word.x spec_l04Word.h spec_l04Word.ps spec_l04Word.rs spec_l04Word.vs spec_l04Word.K.I spec_l04Word.K.O spec_l04Word.c k x = spec_l04Word.K.run k x := by
  show _ = spec_l04Word.f k x.1 x.2
  kernel_rfl
theorem spec_l04Word.ok : CtrOk Try.prog 100 spec_l04Word.K :=
  CtrOk.of (fn := Try.f100) (cd := spec_l04Word.c) (cx := spec_l04Word.x) (hs := spec_l04Word.h) (by kernel_rfl) (by kernel_rfl) (by kernel_rfl) (by kernel_rfl) tt_ok (envOk_nil) (by kernel_rfl) (by kernel_rfl) (by kernel_rfl) (by kernel_rfl) fun k x r h => (spec_l04Word.eq k x).trans h
/-! spec.l04Words -/
noncomputable def spec_l04Words.c : Code := bodyOf Try.f86
def spec_l04Words.h : Nat → Hint := look ⟨[], [], []⟩ [(0, ⟨[0, 3, 4], [], [(.t 3, 320, 113, (.int .u32))]⟩)]
def spec_l04Words.ps : List PK := [.one]
def spec_l04Words.rs : List RK := [.one true]
def spec_l04Words.vs : List ResultVar := [.tmp 2]
def spec_l04Words.x : Cx := ⟨tt, look none [(100, some spec_l04Word.K)]⟩
def spec_l04Words.s0 (k : Nat) (rec0 : (ByteArray × Int × (List (Int))) → Option ((List (Int)))) (p : (ByteArray × Int × (List (Int)))) : Option ((List (Int))) :=
  (bif (decide ((IntKind.i64.wrap (p.2.1 + (4 : Int))) ≤ (p.1.size : Int))) then (spec_l04Word.f k p.1 p.2.1).bind fun r1 => (bif decide ((p.2.2.length + [r1].length) * 4 ≤ 140737488355328) then rec0 (p.1, (IntKind.i64.wrap (p.2.1 + (4 : Int))), (p.2.2 ++ [r1])) else none) else some p.2.2)
def spec_l04Words.l0 (k : Nat) : Nat → (ByteArray × Int × (List (Int))) → Option ((List (Int)))
  | 0 => fun _ => none
  | j + 1 => spec_l04Words.s0 k (spec_l04Words.l0 k j)
def spec_l04Words.S0 (p : (ByteArray × Int × (List (Int)))) : DS := ⟨tl [(0, .at (.str p.1)), (3, .at (.whole 320)), (4, .at (.int .i64 p.2.1))], lookO [(320, .row 113 (.int .u32) true p.2.2)]⟩
noncomputable def spec_l04Words.D0 (k : Nat) (j : Nat) (p : (ByteArray × Int × (List (Int)))) : Option ((List (Int))) := loopK (normK [] (spec_l04Words.h 0)) (runK spec_l04Words.x k 0 [] spec_l04Words.h 0 (sub spec_l04Words.c [1, 1, 0, 1, 0, 0])) j (spec_l04Words.S0 p) (kBlk 0 (kSeq (runK spec_l04Words.x k 0 [] spec_l04Words.h 0 (sub spec_l04Words.c [1, 1, 1])) (fin tt spec_l04Words.ps spec_l04Words.rs spec_l04Words.vs (.sl 113 (.int .u32)))))
theorem spec_l04Words.D0_eq (k : Nat) : ∀ j, spec_l04Words.D0 k j = spec_l04Words.l0 k j := by
  intro j
  induction j with
  | zero => rfl
  | succ j ih =>
    show _ = spec_l04Words.s0 k (spec_l04Words.l0 k j)
    rw [← ih]
    funext p
    kernel_rfl
def spec_l04Words.f (k : Nat) (a0 : ByteArray) : Option ((List (Int))) :=
  spec_l04Words.l0 k k (a0, (0 : Int), ([] : List (Int)))
def spec_l04Words.K : Ctr := ⟨spec_l04Words.ps, spec_l04Words.rs, false, .str, (.sl 113 (.int .u32)), fun k x => spec_l04Words.f k x⟩
theorem spec_l04Words.eq (k : Nat) (x : (spec_l04Words.K.I).den) : func spec_l04Words.x spec_l04Words.h spec_l04Words.ps spec_l04Words.rs spec_l04Words.vs spec_l04Words.K.I spec_l04Words.K.O spec_l04Words.c k x = spec_l04Words.K.run k x := by
  show _ = spec_l04Words.f k x
  unfold spec_l04Words.f
  rw [← spec_l04Words.D0_eq k k]
  kernel_rfl
theorem spec_l04Words.ok : CtrOk Try.prog 86 spec_l04Words.K :=
  CtrOk.of (fn := Try.f86) (cd := spec_l04Words.c) (cx := spec_l04Words.x) (hs := spec_l04Words.h) (by kernel_rfl) (by kernel_rfl) (by kernel_rfl) (by kernel_rfl) tt_ok (envOk_cons spec_l04Word.ok (envOk_nil)) (by kernel_rfl) (by kernel_rfl) (by kernel_rfl) (by kernel_rfl) fun k x r h => (spec_l04Words.eq k x).trans h
/-! spec.l04K -/
noncomputable def spec_l04K.c : Code := bodyOf Try.f87
def spec_l04K.h : Nat → Hint := look ⟨[], [], []⟩ []
def spec_l04K.ps : List PK := []
def spec_l04K.rs : List RK := [.one true]
def spec_l04K.vs : List ResultVar := [.tmp 0]
def spec_l04K.x : Cx := ⟨tt, look none []⟩
def spec_l04K.f (_k : Nat) : Option ((List (Int))) :=
  some [(1116352408 : Int), (1899447441 : Int), (3049323471 : Int), (3921009573 : Int), (961987163 : Int), (1508970993 : Int), (2453635748 : Int), (2870763221 : Int), (3624381080 : Int), (310598401 : Int), (607225278 : Int), (1426881987 : Int), (1925078388 : Int), (2162078206 : Int), (2614888103 : Int), (3248222580 : Int), (3835390401 : Int), (4022224774 : Int), (264347078 : Int), (604807628 : Int), (770255983 : Int), (1249150122 : Int), (1555081692 : Int), (1996064986 : Int), (2554220882 : Int), (2821834349 : Int), (2952996808 : Int), (3210313671 : Int), (3336571891 : Int), (3584528711 : Int), (113926993 : Int), (338241895 : Int), (666307205 : Int), (773529912 : Int), (1294757372 : Int), (1396182291 : Int), (1695183700 : Int), (1986661051 : Int), (2177026350 : Int), (2456956037 : Int), (2730485921 : Int), (2820302411 : Int), (3259730800 : Int), (3345764771 : Int), (3516065817 : Int), (3600352804 : Int), (4094571909 : Int), (275423344 : Int), (430227734 : Int), (506948616 : Int), (659060556 : Int), (883997877 : Int), (958139571 : Int), (1322822218 : Int), (1537002063 : Int), (1747873779 : Int), (1955562222 : Int), (2024104815 : Int), (2227730452 : Int), (2361852424 : Int), (2428436474 : Int), (2756734187 : Int), (3204031479 : Int), (3329325298 : Int)]
def spec_l04K.K : Ctr := ⟨spec_l04K.ps, spec_l04K.rs, false, .unit, (.sl 113 (.int .u32)), fun k _ => spec_l04K.f k⟩
theorem spec_l04K.eq (k : Nat) (x : (spec_l04K.K.I).den) : func spec_l04K.x spec_l04K.h spec_l04K.ps spec_l04K.rs spec_l04K.vs spec_l04K.K.I spec_l04K.K.O spec_l04K.c k x = spec_l04K.K.run k x := by
  show _ = spec_l04K.f k
  kernel_rfl
theorem spec_l04K.ok : CtrOk Try.prog 87 spec_l04K.K :=
  CtrOk.of (fn := Try.f87) (cd := spec_l04K.c) (cx := spec_l04K.x) (hs := spec_l04K.h) (by kernel_rfl) (by kernel_rfl) (by kernel_rfl) (by kernel_rfl) tt_ok (envOk_nil) (by kernel_rfl) (by kernel_rfl) (by kernel_rfl) (by kernel_rfl) fun k x r h => (spec_l04K.eq k x).trans h
/-! spec.l04Right -/
noncomputable def spec_l04Right.c : Code := bodyOf Try.f109
def spec_l04Right.h : Nat → Hint := look ⟨[], [], []⟩ []
def spec_l04Right.ps : List PK := [.one, .one, .one]
def spec_l04Right.rs : List RK := [.one true]
def spec_l04Right.vs : List ResultVar := [.tmp 6]
def spec_l04Right.x : Cx := ⟨tt, look none []⟩
def spec_l04Right.f (_k : Nat) (a0 : Int) (a1 : Int) (a2 : Int) : Option (Int) :=
  (bif (a1 == 0) then none else (bif (a1 == 0) then none else some (IntKind.u32.wrap ((IntKind.u32.wrap (a0.tdiv a1)) + (IntKind.u32.wrap ((a0.tmod a1) * a2))))))
def spec_l04Right.K : Ctr := ⟨spec_l04Right.ps, spec_l04Right.rs, false, (.two (.int .u32) (.two (.int .u32) (.int .u32))), (.int .u32), fun k x => spec_l04Right.f k x.1 x.2.1 x.2.2⟩
theorem spec_l04Right.eq (k : Nat) (x : (spec_l04Right.K.I).den) : func spec_l04Right.x spec_l04Right.h spec_l04Right.ps spec_l04Right.rs spec_l04Right.vs spec_l04Right.K.I spec_l04Right.K.O spec_l04Right.c k x = spec_l04Right.K.run k x := by
  show _ = spec_l04Right.f k x.1 x.2.1 x.2.2
  kernel_rfl
theorem spec_l04Right.ok : CtrOk Try.prog 109 spec_l04Right.K :=
  CtrOk.of (fn := Try.f109) (cd := spec_l04Right.c) (cx := spec_l04Right.x) (hs := spec_l04Right.h) (by kernel_rfl) (by kernel_rfl) (by kernel_rfl) (by kernel_rfl) tt_ok (envOk_nil) (by kernel_rfl) (by kernel_rfl) (by kernel_rfl) (by kernel_rfl) fun k x r h => (spec_l04Right.eq k x).trans h
/-! spec.l04S -/
noncomputable def spec_l04S.c : Code := bodyOf Try.f101
def spec_l04S.h : Nat → Hint := look ⟨[], [], []⟩ []
def spec_l04S.ps : List PK := [.one, .one, .one, .one, .one]
def spec_l04S.rs : List RK := [.one true]
def spec_l04S.vs : List ResultVar := [.tmp 10]
def spec_l04S.x : Cx := ⟨tt, look none [(109, some spec_l04Right.K)]⟩
def spec_l04S.f (k : Nat) (a0 : Int) (a1 : Int) (a2 : Int) (a3 : Int) (a4 : Bool) : Option (Int) :=
  (bif (a1 == 0) then none else (spec_l04Right.f k a0 a1 (IntKind.u32.wrap ((IntKind.u32.wrap ((2147483648 : Int).tdiv a1)) * (2 : Int)))).bind fun r1 => (bif (a2 == 0) then none else (spec_l04Right.f k a0 a2 (IntKind.u32.wrap ((IntKind.u32.wrap ((2147483648 : Int).tdiv a2)) * (2 : Int)))).bind fun r2 => (bif (a3 == 0) then none else (bif (!a4) then (bif (a3 == 0) then none else (spec_l04Right.f k a0 a3 (IntKind.u32.wrap ((IntKind.u32.wrap ((2147483648 : Int).tdiv a3)) * (2 : Int)))).bind fun r3 => some (IntKind.u32.wrap (((BitVec.ofInt IntKind.u32.bits (IntKind.u32.wrap (((BitVec.ofInt IntKind.u32.bits r1) ^^^ (BitVec.ofInt IntKind.u32.bits r2)).toNat : Int))) ^^^ (BitVec.ofInt IntKind.u32.bits r3)).toNat : Int))) else some (IntKind.u32.wrap (((BitVec.ofInt IntKind.u32.bits (IntKind.u32.wrap (((BitVec.ofInt IntKind.u32.bits r1) ^^^ (BitVec.ofInt IntKind.u32.bits r2)).toNat : Int))) ^^^ (BitVec.ofInt IntKind.u32.bits (IntKind.u32.wrap (a0.tdiv a3)))).toNat : Int))))))
def spec_l04S.K : Ctr := ⟨spec_l04S.ps, spec_l04S.rs, false, (.two (.int .u32) (.two (.int .u32) (.two (.int .u32) (.two (.int .u32) .bool)))), (.int .u32), fun k x => spec_l04S.f k x.1 x.2.1 x.2.2.1 x.2.2.2.1 x.2.2.2.2⟩
theorem spec_l04S.eq (k : Nat) (x : (spec_l04S.K.I).den) : func spec_l04S.x spec_l04S.h spec_l04S.ps spec_l04S.rs spec_l04S.vs spec_l04S.K.I spec_l04S.K.O spec_l04S.c k x = spec_l04S.K.run k x := by
  show _ = spec_l04S.f k x.1 x.2.1 x.2.2.1 x.2.2.2.1 x.2.2.2.2
  kernel_rfl
theorem spec_l04S.ok : CtrOk Try.prog 101 spec_l04S.K :=
  CtrOk.of (fn := Try.f101) (cd := spec_l04S.c) (cx := spec_l04S.x) (hs := spec_l04S.h) (by kernel_rfl) (by kernel_rfl) (by kernel_rfl) (by kernel_rfl) tt_ok (envOk_cons spec_l04Right.ok (envOk_nil)) (by kernel_rfl) (by kernel_rfl) (by kernel_rfl) (by kernel_rfl) fun k x r h => (spec_l04S.eq k x).trans h
/-! spec.l04Round -/
noncomputable def spec_l04Round.c : Code := bodyOf Try.f88
def spec_l04Round.h : Nat → Hint := look ⟨[], [], []⟩ [(0, ⟨[0, 1, 7, 8], [], [(.t 7, 2624, 113, (.int .u32))]⟩), (2, ⟨[0, 1, 7, 9, 10], [], [(.t 7, 2624, 113, (.int .u32)), (.t 9, 2625, 113, (.int .u32))]⟩), (4, ⟨[0, 1, 7, 9, 10, 13, 15, 16], [], [(.t 7, 2624, 113, (.int .u32)), (.t 9, 2625, 113, (.int .u32))]⟩), (6, ⟨[0, 9, 17, 18], [], [(.t 9, 2624, 113, (.int .u32)), (.t 17, 2625, 113, (.int .u32))]⟩)]
def spec_l04Round.ps : List PK := [.one, .one, .one]
def spec_l04Round.rs : List RK := [.one true]
def spec_l04Round.vs : List ResultVar := [.tmp 6]
def spec_l04Round.x : Cx := ⟨tt, look none [(86, some spec_l04Words.K), (101, some spec_l04S.K)]⟩
def spec_l04Round.s4 (_k : Nat) (rec2 : (Int × (List (Int)) × (List (Int)) × (List (Int)) × (List (Int))) → Option ((List (Int)))) (rec4 : (Int × Int × Int × Int × (List (Int)) × (List (Int)) × (List (Int)) × (List (Int))) → Option ((List (Int)))) (p : (Int × Int × Int × Int × (List (Int)) × (List (Int)) × (List (Int)) × (List (Int)))) : Option ((List (Int))) :=
  (bif (decide (p.2.2.2.1 > (0 : Int))) then (bif ((decide ((0 : Int) ≤ (IntKind.i64.wrap (p.2.2.2.1 - (1 : Int))))) && (decide ((IntKind.i64.wrap (p.2.2.2.1 - (1 : Int))) < (p.2.2.2.2.2.2.2.length : Int)))) then (p.2.2.2.2.2.2.2[(IntKind.i64.wrap (p.2.2.2.1 - (1 : Int))).toNat]?).bind fun x23 => (bif ((decide ((0 : Int) ≤ p.2.2.2.1)) && (decide (p.2.2.2.1 < (p.2.2.2.2.2.2.2.length : Int)))) then (p.2.2.2.2.2.2.2[p.2.2.2.1.toNat]?).bind fun x24 => rec4 (p.1, p.2.1, p.2.2.1, (IntKind.i64.wrap (p.2.2.2.1 - (1 : Int))), p.2.2.2.2.1, p.2.2.2.2.2.1, p.2.2.2.2.2.2.1, (p.2.2.2.2.2.2.2.set p.2.2.2.1.toNat x23)) else none) else none) else (bif (true && (decide ((4 : Int) < (p.2.2.2.2.2.2.2.length : Int)))) then (p.2.2.2.2.2.2.2[4]?).bind fun x25 => (bif (true && (decide ((4 : Int) < (p.2.2.2.2.2.2.2.length : Int)))) then (p.2.2.2.2.2.2.2[4]?).bind fun x26 => (bif (true && (decide ((0 : Int) < ((p.2.2.2.2.2.2.2.set 4 (IntKind.u32.wrap (x25 + p.2.1))).length : Int)))) then ((p.2.2.2.2.2.2.2.set 4 (IntKind.u32.wrap (x25 + p.2.1)))[0]?).bind fun x27 => rec2 ((IntKind.i64.wrap (p.1 + (1 : Int))), p.2.2.2.2.1, p.2.2.2.2.2.1, p.2.2.2.2.2.2.1, ((p.2.2.2.2.2.2.2.set 4 (IntKind.u32.wrap (x25 + p.2.1))).set 0 (IntKind.u32.wrap (p.2.1 + p.2.2.1)))) else none) else none) else none))
def spec_l04Round.l4 (k : Nat) (rec2 : (Int × (List (Int)) × (List (Int)) × (List (Int)) × (List (Int))) → Option ((List (Int)))) : Nat → (Int × Int × Int × Int × (List (Int)) × (List (Int)) × (List (Int)) × (List (Int))) → Option ((List (Int)))
  | 0 => fun _ => none
  | j + 1 => spec_l04Round.s4 k rec2 (spec_l04Round.l4 k rec2 j)
def spec_l04Round.s6 (_k : Nat) (rec6 : (Int × (List (Int)) × (List (Int)) × (List (Int)) × (List (Int))) → Option ((List (Int)))) (p : (Int × (List (Int)) × (List (Int)) × (List (Int)) × (List (Int)))) : Option ((List (Int))) :=
  (bif (decide (p.1 < (8 : Int))) then (bif ((decide ((0 : Int) ≤ p.1)) && (decide (p.1 < (p.2.1.length : Int)))) then (p.2.1[p.1.toNat]?).bind fun x28 => (bif ((decide ((0 : Int) ≤ p.1)) && (decide (p.1 < (p.2.2.2.1.length : Int)))) then (p.2.2.2.1[p.1.toNat]?).bind fun x29 => (bif decide ((p.2.2.2.2.length + [(IntKind.u32.wrap (x28 + x29))].length) * 4 ≤ 140737488355328) then rec6 ((IntKind.i64.wrap (p.1 + (1 : Int))), p.2.1, p.2.2.1, p.2.2.2.1, (p.2.2.2.2 ++ [(IntKind.u32.wrap (x28 + x29))])) else none) else none) else none) else some p.2.2.2.2)
def spec_l04Round.l6 (k : Nat) : Nat → (Int × (List (Int)) × (List (Int)) × (List (Int)) × (List (Int))) → Option ((List (Int)))
  | 0 => fun _ => none
  | j + 1 => spec_l04Round.s6 k (spec_l04Round.l6 k j)
def spec_l04Round.s2 (k : Nat) (_rec2 : (Int × (List (Int)) × (List (Int)) × (List (Int)) × (List (Int))) → Option ((List (Int)))) (i4 : (Int × Int × Int × Int × (List (Int)) × (List (Int)) × (List (Int)) × (List (Int))) → Option ((List (Int)))) (i6 : (Int × (List (Int)) × (List (Int)) × (List (Int)) × (List (Int))) → Option ((List (Int)))) (p : (Int × (List (Int)) × (List (Int)) × (List (Int)) × (List (Int)))) : Option ((List (Int))) :=
  (bif (decide (p.1 < (64 : Int))) then (bif (true && (decide ((4 : Int) < (p.2.2.2.2.length : Int)))) then (p.2.2.2.2[4]?).bind fun x8 => (bif (true && (decide ((5 : Int) < (p.2.2.2.2.length : Int)))) then (p.2.2.2.2[5]?).bind fun x9 => (bif (true && (decide ((6 : Int) < (p.2.2.2.2.length : Int)))) then (p.2.2.2.2[6]?).bind fun x10 => (bif (true && (decide ((7 : Int) < (p.2.2.2.2.length : Int)))) then (p.2.2.2.2[7]?).bind fun x11 => (spec_l04S.f k x8 (64 : Int) (2048 : Int) (33554432 : Int) false).bind fun r12 => (bif ((decide ((0 : Int) ≤ p.1)) && (decide (p.1 < (p.2.2.1.length : Int)))) then (p.2.2.1[p.1.toNat]?).bind fun x13 => (bif ((decide ((0 : Int) ≤ p.1)) && (decide (p.1 < (p.2.2.2.1.length : Int)))) then (p.2.2.2.1[p.1.toNat]?).bind fun x14 => (bif (true && (decide ((0 : Int) < (p.2.2.2.2.length : Int)))) then (p.2.2.2.2[0]?).bind fun x15 => (bif (true && (decide ((1 : Int) < (p.2.2.2.2.length : Int)))) then (p.2.2.2.2[1]?).bind fun x16 => (bif (true && (decide ((0 : Int) < (p.2.2.2.2.length : Int)))) then (p.2.2.2.2[0]?).bind fun x17 => (bif (true && (decide ((2 : Int) < (p.2.2.2.2.length : Int)))) then (p.2.2.2.2[2]?).bind fun x18 => (bif (true && (decide ((1 : Int) < (p.2.2.2.2.length : Int)))) then (p.2.2.2.2[1]?).bind fun x19 => (bif (true && (decide ((2 : Int) < (p.2.2.2.2.length : Int)))) then (p.2.2.2.2[2]?).bind fun x20 => (bif (true && (decide ((0 : Int) < (p.2.2.2.2.length : Int)))) then (p.2.2.2.2[0]?).bind fun x21 => (spec_l04S.f k x21 (4 : Int) (8192 : Int) (4194304 : Int) false).bind fun r22 => i4 (p.1, (IntKind.u32.wrap ((IntKind.u32.wrap ((IntKind.u32.wrap ((IntKind.u32.wrap (x11 + r12)) + (IntKind.u32.wrap (((BitVec.ofInt IntKind.u32.bits (IntKind.u32.wrap (((BitVec.ofInt IntKind.u32.bits x8) &&& (BitVec.ofInt IntKind.u32.bits x9)).toNat : Int))) ^^^ (BitVec.ofInt IntKind.u32.bits (IntKind.u32.wrap (((BitVec.ofInt IntKind.u32.bits (IntKind.u32.wrap ((4294967295 : Int) - x8))) &&& (BitVec.ofInt IntKind.u32.bits x10)).toNat : Int)))).toNat : Int)))) + x13)) + x14)), (IntKind.u32.wrap (r22 + (IntKind.u32.wrap (((BitVec.ofInt IntKind.u32.bits (IntKind.u32.wrap (((BitVec.ofInt IntKind.u32.bits (IntKind.u32.wrap (((BitVec.ofInt IntKind.u32.bits x15) &&& (BitVec.ofInt IntKind.u32.bits x16)).toNat : Int))) ^^^ (BitVec.ofInt IntKind.u32.bits (IntKind.u32.wrap (((BitVec.ofInt IntKind.u32.bits x17) &&& (BitVec.ofInt IntKind.u32.bits x18)).toNat : Int)))).toNat : Int))) ^^^ (BitVec.ofInt IntKind.u32.bits (IntKind.u32.wrap (((BitVec.ofInt IntKind.u32.bits x19) &&& (BitVec.ofInt IntKind.u32.bits x20)).toNat : Int)))).toNat : Int)))), (7 : Int), p.2.1, p.2.2.1, p.2.2.2.1, p.2.2.2.2) else none) else none) else none) else none) else none) else none) else none) else none) else none) else none) else none) else none) else none) else i6 ((0 : Int), p.2.1, p.2.2.1, p.2.2.2.2, ([] : List (Int))))
def spec_l04Round.l2 (k : Nat) : Nat → (Int × (List (Int)) × (List (Int)) × (List (Int)) × (List (Int))) → Option ((List (Int)))
  | 0 => fun _ => none
  | j + 1 => spec_l04Round.s2 k (spec_l04Round.l2 k j) (spec_l04Round.l4 k (spec_l04Round.l2 k j) k) (spec_l04Round.l6 k k)
def spec_l04Round.s0 (k : Nat) (rec0 : (Int × (List (Int)) × (List (Int)) × (List (Int))) → Option ((List (Int)))) (i2 : (Int × (List (Int)) × (List (Int)) × (List (Int)) × (List (Int))) → Option ((List (Int)))) (p : (Int × (List (Int)) × (List (Int)) × (List (Int)))) : Option ((List (Int))) :=
  (bif (decide (p.1 < (64 : Int))) then (bif ((decide ((0 : Int) ≤ (IntKind.i64.wrap (p.1 - (2 : Int))))) && (decide ((IntKind.i64.wrap (p.1 - (2 : Int))) < (p.2.2.2.length : Int)))) then (p.2.2.2[(IntKind.i64.wrap (p.1 - (2 : Int))).toNat]?).bind fun x2 => (spec_l04S.f k x2 (131072 : Int) (524288 : Int) (1024 : Int) true).bind fun r3 => (bif ((decide ((0 : Int) ≤ (IntKind.i64.wrap (p.1 - (7 : Int))))) && (decide ((IntKind.i64.wrap (p.1 - (7 : Int))) < (p.2.2.2.length : Int)))) then (p.2.2.2[(IntKind.i64.wrap (p.1 - (7 : Int))).toNat]?).bind fun x4 => (bif ((decide ((0 : Int) ≤ (IntKind.i64.wrap (p.1 - (15 : Int))))) && (decide ((IntKind.i64.wrap (p.1 - (15 : Int))) < (p.2.2.2.length : Int)))) then (p.2.2.2[(IntKind.i64.wrap (p.1 - (15 : Int))).toNat]?).bind fun x5 => (spec_l04S.f k x5 (128 : Int) (262144 : Int) (8 : Int) true).bind fun r6 => (bif ((decide ((0 : Int) ≤ (IntKind.i64.wrap (p.1 - (16 : Int))))) && (decide ((IntKind.i64.wrap (p.1 - (16 : Int))) < (p.2.2.2.length : Int)))) then (p.2.2.2[(IntKind.i64.wrap (p.1 - (16 : Int))).toNat]?).bind fun x7 => (bif decide ((p.2.2.2.length + [(IntKind.u32.wrap ((IntKind.u32.wrap ((IntKind.u32.wrap (r3 + x4)) + r6)) + x7))].length) * 4 ≤ 140737488355328) then rec0 ((IntKind.i64.wrap (p.1 + (1 : Int))), p.2.1, p.2.2.1, (p.2.2.2 ++ [(IntKind.u32.wrap ((IntKind.u32.wrap ((IntKind.u32.wrap (r3 + x4)) + r6)) + x7))])) else none) else none) else none) else none) else none) else (bif decide ((([] : List (Int)).length + p.2.1.length) * 4 ≤ 140737488355328) then i2 ((0 : Int), p.2.1, p.2.2.1, p.2.2.2, (([] : List (Int)) ++ p.2.1)) else none))
def spec_l04Round.l0 (k : Nat) : Nat → (Int × (List (Int)) × (List (Int)) × (List (Int))) → Option ((List (Int)))
  | 0 => fun _ => none
  | j + 1 => spec_l04Round.s0 k (spec_l04Round.l0 k j) (spec_l04Round.l2 k k)
def spec_l04Round.S4 (p : (Int × Int × Int × Int × (List (Int)) × (List (Int)) × (List (Int)) × (List (Int)))) : DS := ⟨tl [(0, .at (.whole 0)), (1, .at (.whole 16)), (7, .at (.whole 2624)), (9, .at (.whole 2625)), (10, .at (.int .i64 p.1)), (13, .at (.int .u32 p.2.1)), (15, .at (.int .u32 p.2.2.1)), (16, .at (.int .i64 p.2.2.2.1))], lookO [(0, .row 113 (.int .u32) false p.2.2.2.2.1), (16, .row 113 (.int .u32) false p.2.2.2.2.2.1), (2624, .row 113 (.int .u32) true p.2.2.2.2.2.2.1), (2625, .row 113 (.int .u32) true p.2.2.2.2.2.2.2)]⟩
def spec_l04Round.S6 (p : (Int × (List (Int)) × (List (Int)) × (List (Int)) × (List (Int)))) : DS := ⟨tl [(0, .at (.whole 0)), (9, .at (.whole 2624)), (17, .at (.whole 2625)), (18, .at (.int .i64 p.1))], lookO [(0, .row 113 (.int .u32) false p.2.1), (16, .row 113 (.int .u32) false p.2.2.1), (2624, .row 113 (.int .u32) true p.2.2.2.1), (2625, .row 113 (.int .u32) true p.2.2.2.2)]⟩
def spec_l04Round.S2 (p : (Int × (List (Int)) × (List (Int)) × (List (Int)) × (List (Int)))) : DS := ⟨tl [(0, .at (.whole 0)), (1, .at (.whole 16)), (7, .at (.whole 2624)), (9, .at (.whole 2625)), (10, .at (.int .i64 p.1))], lookO [(0, .row 113 (.int .u32) false p.2.1), (16, .row 113 (.int .u32) false p.2.2.1), (2624, .row 113 (.int .u32) true p.2.2.2.1), (2625, .row 113 (.int .u32) true p.2.2.2.2)]⟩
def spec_l04Round.S0 (p : (Int × (List (Int)) × (List (Int)) × (List (Int)))) : DS := ⟨tl [(0, .at (.whole 0)), (1, .at (.whole 16)), (7, .at (.whole 2624)), (8, .at (.int .i64 p.1))], lookO [(0, .row 113 (.int .u32) false p.2.1), (16, .row 113 (.int .u32) false p.2.2.1), (2624, .row 113 (.int .u32) true p.2.2.2)]⟩
noncomputable def spec_l04Round.D4 (k : Nat) (j2 : Nat) (j : Nat) (p : (Int × Int × Int × Int × (List (Int)) × (List (Int)) × (List (Int)) × (List (Int)))) : Option ((List (Int))) := loopK (normK [0, 16] (spec_l04Round.h 4)) (runK spec_l04Round.x k 0 [0, 16] spec_l04Round.h 4 (sub spec_l04Round.c [1, 1, 1, 1, 0, 1, 0, 0, 1, 0, 0, 1, 1, 1, 1, 1, 0, 1, 0, 0])) j (spec_l04Round.S4 p) (kBlk 4 (kSeq (runK spec_l04Round.x k 0 [0, 16] spec_l04Round.h 3 (sub spec_l04Round.c [1, 1, 1, 1, 0, 1, 0, 0, 1, 0, 0, 1, 1, 1, 1, 1, 1])) (kBlk 3 (kSeq (runK spec_l04Round.x k 0 [0, 16] spec_l04Round.h 2 (sub spec_l04Round.c [1, 1, 1, 1, 0, 1, 0, 0, 1, 1])) (kSeq (fun s' K => normK [0, 16] (spec_l04Round.h 2) s' fun s => loopK (normK [0, 16] (spec_l04Round.h 2)) (runK spec_l04Round.x k 0 [0, 16] spec_l04Round.h 2 (sub spec_l04Round.c [1, 1, 1, 1, 0, 1, 0, 0])) j2 s K) (kBlk 2 (kSeq (runK spec_l04Round.x k 0 [0, 16] spec_l04Round.h 0 (sub spec_l04Round.c [1, 1, 1, 1, 1])) (fin tt spec_l04Round.ps spec_l04Round.rs spec_l04Round.vs (.sl 113 (.int .u32))))))))))
noncomputable def spec_l04Round.D6 (k : Nat) (j : Nat) (p : (Int × (List (Int)) × (List (Int)) × (List (Int)) × (List (Int)))) : Option ((List (Int))) := loopK (normK [0, 16] (spec_l04Round.h 6)) (runK spec_l04Round.x k 0 [0, 16] spec_l04Round.h 6 (sub spec_l04Round.c [1, 1, 1, 1, 1, 1, 0, 1, 0, 0])) j (spec_l04Round.S6 p) (kBlk 6 (kSeq (runK spec_l04Round.x k 0 [0, 16] spec_l04Round.h 0 (sub spec_l04Round.c [1, 1, 1, 1, 1, 1, 1])) (fin tt spec_l04Round.ps spec_l04Round.rs spec_l04Round.vs (.sl 113 (.int .u32)))))
noncomputable def spec_l04Round.D2 (k : Nat) (j : Nat) (p : (Int × (List (Int)) × (List (Int)) × (List (Int)) × (List (Int)))) : Option ((List (Int))) := loopK (normK [0, 16] (spec_l04Round.h 2)) (runK spec_l04Round.x k 0 [0, 16] spec_l04Round.h 2 (sub spec_l04Round.c [1, 1, 1, 1, 0, 1, 0, 0])) j (spec_l04Round.S2 p) (kBlk 2 (kSeq (runK spec_l04Round.x k 0 [0, 16] spec_l04Round.h 0 (sub spec_l04Round.c [1, 1, 1, 1, 1])) (fin tt spec_l04Round.ps spec_l04Round.rs spec_l04Round.vs (.sl 113 (.int .u32)))))
noncomputable def spec_l04Round.D0 (k : Nat) (j : Nat) (p : (Int × (List (Int)) × (List (Int)) × (List (Int)))) : Option ((List (Int))) := loopK (normK [0, 16] (spec_l04Round.h 0)) (runK spec_l04Round.x k 0 [0, 16] spec_l04Round.h 0 (sub spec_l04Round.c [1, 1, 0, 1, 0, 0])) j (spec_l04Round.S0 p) (kBlk 0 (kSeq (runK spec_l04Round.x k 0 [0, 16] spec_l04Round.h 0 (sub spec_l04Round.c [1, 1, 1])) (fin tt spec_l04Round.ps spec_l04Round.rs spec_l04Round.vs (.sl 113 (.int .u32)))))
theorem spec_l04Round.D4_eq (k : Nat) (j2 : Nat) : ∀ j, spec_l04Round.D4 k j2 j = spec_l04Round.l4 k (spec_l04Round.D2 k j2) j := by
  intro j
  induction j with
  | zero => rfl
  | succ j ih =>
    show _ = spec_l04Round.s4 k (spec_l04Round.D2 k j2) (spec_l04Round.l4 k (spec_l04Round.D2 k j2) j)
    rw [← ih]
    funext p
    kernel_rfl
theorem spec_l04Round.D6_eq (k : Nat) : ∀ j, spec_l04Round.D6 k j = spec_l04Round.l6 k j := by
  intro j
  induction j with
  | zero => rfl
  | succ j ih =>
    show _ = spec_l04Round.s6 k (spec_l04Round.l6 k j)
    rw [← ih]
    funext p
    kernel_rfl
theorem spec_l04Round.D2_eq (k : Nat) : ∀ j, spec_l04Round.D2 k j = spec_l04Round.l2 k j := by
  intro j
  induction j with
  | zero => rfl
  | succ j ih =>
    show _ = spec_l04Round.s2 k (spec_l04Round.l2 k j) (spec_l04Round.l4 k (spec_l04Round.l2 k j) k) (spec_l04Round.l6 k k)
    rw [← ih, ← spec_l04Round.D4_eq k j k, ← spec_l04Round.D6_eq k k]
    funext p
    kernel_rfl
theorem spec_l04Round.D0_eq (k : Nat) : ∀ j, spec_l04Round.D0 k j = spec_l04Round.l0 k j := by
  intro j
  induction j with
  | zero => rfl
  | succ j ih =>
    show _ = spec_l04Round.s0 k (spec_l04Round.l0 k j) (spec_l04Round.l2 k k)
    rw [← ih, ← spec_l04Round.D2_eq k k]
    funext p
    kernel_rfl
def spec_l04Round.f (k : Nat) (a0 : List (Int)) (a1 : List (Int)) (a2 : ByteArray) : Option ((List (Int))) :=
  (spec_l04Words.f k a2).bind fun r1 => spec_l04Round.l0 k k ((16 : Int), a0, a1, r1)
def spec_l04Round.K : Ctr := ⟨spec_l04Round.ps, spec_l04Round.rs, false, (.two (.sl 113 (.int .u32)) (.two (.sl 113 (.int .u32)) .str)), (.sl 113 (.int .u32)), fun k x => spec_l04Round.f k x.1 x.2.1 x.2.2⟩
theorem spec_l04Round.eq (k : Nat) (x : (spec_l04Round.K.I).den) : func spec_l04Round.x spec_l04Round.h spec_l04Round.ps spec_l04Round.rs spec_l04Round.vs spec_l04Round.K.I spec_l04Round.K.O spec_l04Round.c k x = spec_l04Round.K.run k x := by
  show _ = spec_l04Round.f k x.1 x.2.1 x.2.2
  unfold spec_l04Round.f
  rw [← spec_l04Round.D0_eq k k]
  kernel_rfl
theorem spec_l04Round.ok : CtrOk Try.prog 88 spec_l04Round.K :=
  CtrOk.of (fn := Try.f88) (cd := spec_l04Round.c) (cx := spec_l04Round.x) (hs := spec_l04Round.h) (by kernel_rfl) (by kernel_rfl) (by kernel_rfl) (by kernel_rfl) tt_ok (envOk_cons spec_l04Words.ok (envOk_cons spec_l04S.ok (envOk_nil))) (by kernel_rfl) (by kernel_rfl) (by kernel_rfl) (by kernel_rfl) fun k x r h => (spec_l04Round.eq k x).trans h
/-! spec.HashMore -/
noncomputable def spec_HashMore.c : Code := bodyOf Try.f78
def spec_HashMore.h : Nat → Hint := look ⟨[], [], []⟩ [(0, ⟨[1, 2, 4, 5, 6, 7, 8], [32, 64], [(.t 5, 880, 113, (.int .u32)), (.t 6, 881, 113, (.int .u32))]⟩)]
def spec_HashMore.ps : List PK := [.agg 3, .one]
def spec_HashMore.rs : List RK := [.agg 3 true]
def spec_HashMore.vs : List ResultVar := [.cell 4 87]
def spec_HashMore.x : Cx := ⟨tt, look none [(85, some spec_HasherOk.K), (86, some spec_l04Words.K), (87, some spec_l04K.K), (88, some spec_l04Round.K), (89, some spec_l04Bytes.K)]⟩
def spec_HashMore.s0 (k : Nat) (rec0 : (ByteArray × ByteArray × Int × ByteArray × ByteArray × Int × ByteArray × ByteArray × Int × (List (Int)) × (List (Int))) → Option (ByteArray × ByteArray × Int)) (p : (ByteArray × ByteArray × Int × ByteArray × ByteArray × Int × ByteArray × ByteArray × Int × (List (Int)) × (List (Int)))) : Option (ByteArray × ByteArray × Int) :=
  (bif (decide ((IntKind.i64.wrap (p.2.2.1 + (64 : Int))) ≤ (p.2.1.size : Int))) then (bif ((decide ((0 : Int) ≤ p.2.2.1)) && ((decide (p.2.2.1 ≤ (IntKind.i64.wrap (p.2.2.1 + (64 : Int))))) && (decide ((IntKind.i64.wrap (p.2.2.1 + (64 : Int))) ≤ (p.2.1.size : Int))))) then (spec_l04Round.f k p.2.2.2.2.2.2.2.2.2.1 p.2.2.2.2.2.2.2.2.2.2 (p.2.1.extract p.2.2.1.toNat (IntKind.i64.wrap (p.2.2.1 + (64 : Int))).toNat)).bind fun r4 => rec0 (p.1, p.2.1, (IntKind.i64.wrap (p.2.2.1 + (64 : Int))), p.2.2.2.1, p.2.2.2.2.1, p.2.2.2.2.2.1, p.2.2.2.2.2.2.1, p.2.2.2.2.2.2.2.1, p.2.2.2.2.2.2.2.2.1, r4, p.2.2.2.2.2.2.2.2.2.2) else none) else (spec_l04Bytes.f k p.2.2.2.2.2.2.2.2.2.1).bind fun r5 => (bif ((decide ((0 : Int) ≤ p.2.2.1)) && (decide (p.2.2.1 ≤ (p.2.1.size : Int)))) then some (r5, (p.2.1.extract p.2.2.1.toNat p.2.1.size), (IntKind.i64.wrap (p.2.2.2.2.2.1 + (p.1.size : Int)))) else none))
def spec_HashMore.l0 (k : Nat) : Nat → (ByteArray × ByteArray × Int × ByteArray × ByteArray × Int × ByteArray × ByteArray × Int × (List (Int)) × (List (Int))) → Option (ByteArray × ByteArray × Int)
  | 0 => fun _ => none
  | j + 1 => spec_HashMore.s0 k (spec_HashMore.l0 k j)
def spec_HashMore.S0 (p : (ByteArray × ByteArray × Int × ByteArray × ByteArray × Int × ByteArray × ByteArray × Int × (List (Int)) × (List (Int)))) : DS := ⟨tl [(1, .at (.str p.1)), (2, .at (.bptr 32 0)), (4, .at (.bptr 64 0)), (5, .at (.whole 880)), (6, .at (.whole 881)), (7, .at (.str p.2.1)), (8, .at (.int .i64 p.2.2.1))], lookO [(32, .box 87 [.str p.2.2.2.1, .str p.2.2.2.2.1, .int .i64 p.2.2.2.2.2.1]), (64, .box 87 [.str p.2.2.2.2.2.2.1, .str p.2.2.2.2.2.2.2.1, .int .i64 p.2.2.2.2.2.2.2.2.1]), (880, .row 113 (.int .u32) true p.2.2.2.2.2.2.2.2.2.1), (881, .row 113 (.int .u32) true p.2.2.2.2.2.2.2.2.2.2)]⟩
noncomputable def spec_HashMore.D0 (k : Nat) (j : Nat) (p : (ByteArray × ByteArray × Int × ByteArray × ByteArray × Int × ByteArray × ByteArray × Int × (List (Int)) × (List (Int)))) : Option (ByteArray × ByteArray × Int) := loopK (normK [] (spec_HashMore.h 0)) (runK spec_HashMore.x k 0 [] spec_HashMore.h 0 (sub spec_HashMore.c [1, 1, 1, 1, 1, 1, 0, 0, 0])) j (spec_HashMore.S0 p) (kBlk 0 (kSeq (runK spec_HashMore.x k 0 [] spec_HashMore.h 0 (sub spec_HashMore.c [1, 1, 1, 1, 1, 1, 1])) (fin tt spec_HashMore.ps spec_HashMore.rs spec_HashMore.vs (.two .str (.two .str (.int .i64))))))
theorem spec_HashMore.D0_eq (k : Nat) : ∀ j, spec_HashMore.D0 k j = spec_HashMore.l0 k j := by
  intro j
  induction j with
  | zero => rfl
  | succ j ih =>
    show _ = spec_HashMore.s0 k (spec_HashMore.l0 k j)
    rw [← ih]
    funext p
    kernel_rfl
def spec_HashMore.f (k : Nat) (a0_0 : ByteArray) (a0_1 : ByteArray) (a0_2 : Int) (a1 : ByteArray) : Option (ByteArray × ByteArray × Int) :=
  (spec_HasherOk.f k a0_0 a0_1 a0_2).bind fun r1 => (bif (!r1) then some (a0_0, a0_1, a0_2) else (bif (decide ((IntKind.i64.wrap (a0_2 + (a1.size : Int))) > (1000000000 : Int))) then some (a0_0, a0_1, a0_2) else (spec_l04Words.f k a0_0).bind fun r2 => (spec_l04K.f k).bind fun r3 => (bif decide (a0_1.size + a1.size ≤ 140737488351232) then spec_HashMore.l0 k k (a1, (a0_1 ++ a1), (0 : Int), a0_0, a0_1, a0_2, ByteArray.empty, ByteArray.empty, (0 : Int), r2, r3) else none)))
def spec_HashMore.K : Ctr := ⟨spec_HashMore.ps, spec_HashMore.rs, false, (.two .str (.two .str (.two (.int .i64) .str))), (.two .str (.two .str (.int .i64))), fun k x => spec_HashMore.f k x.1 x.2.1 x.2.2.1 x.2.2.2⟩
theorem spec_HashMore.eq (k : Nat) (x : (spec_HashMore.K.I).den) : func spec_HashMore.x spec_HashMore.h spec_HashMore.ps spec_HashMore.rs spec_HashMore.vs spec_HashMore.K.I spec_HashMore.K.O spec_HashMore.c k x = spec_HashMore.K.run k x := by
  show _ = spec_HashMore.f k x.1 x.2.1 x.2.2.1 x.2.2.2
  unfold spec_HashMore.f
  rw [← spec_HashMore.D0_eq k k]
  kernel_rfl
theorem spec_HashMore.ok : CtrOk Try.prog 78 spec_HashMore.K :=
  CtrOk.of (fn := Try.f78) (cd := spec_HashMore.c) (cx := spec_HashMore.x) (hs := spec_HashMore.h) (by kernel_rfl) (by kernel_rfl) (by kernel_rfl) (by kernel_rfl) tt_ok (envOk_cons spec_HasherOk.ok (envOk_cons spec_l04Words.ok (envOk_cons spec_l04K.ok (envOk_cons spec_l04Round.ok (envOk_cons spec_l04Bytes.ok (envOk_nil)))))) (by kernel_rfl) (by kernel_rfl) (by kernel_rfl) (by kernel_rfl) fun k x r h => (spec_HashMore.eq k x).trans h
end Go.Proofs.Ytpinehfjimphmaa.DI
