/- FnExactPush: functions as plain Lean, in the machine of values. -/
import Derived.Test.YtpheniajdbbphaaVFnExactPush1
namespace Go.Proofs.Ytpheniajdbbphaa.DI
open Go
set_option linter.unusedVariables false
/-! spec.l01In -/
noncomputable def spec_l01In.c : Code := bodyOf Try.f52
def spec_l01In.h : Nat → Hint := look ⟨[], [], []⟩ []
def spec_l01In.ps : List PK := [.one, .one, .one]
def spec_l01In.rs : List RK := [.one true]
def spec_l01In.vs : List ResultVar := [.tmp 6]
def spec_l01In.x : Cx := ⟨tt, look none []⟩
def spec_l01In.f (_k : Nat) (a0 : Int) (a1 : Int) (a2 : Int) : Option (Bool) :=
  (bif (decide (a0 ≥ a1)) then some (decide (a0 ≤ a2)) else some false)
def spec_l01In.K : Ctr := ⟨spec_l01In.ps, spec_l01In.rs, false, (.two (.int .i64) (.two (.int .i64) (.int .i64))), .bool, fun k x => spec_l01In.f k x.1 x.2.1 x.2.2⟩
theorem spec_l01In.eq (k : Nat) (x : (spec_l01In.K.I).den) : func spec_l01In.x spec_l01In.h spec_l01In.ps spec_l01In.rs spec_l01In.vs spec_l01In.K.I spec_l01In.K.O spec_l01In.c k x = spec_l01In.K.run k x := by
  show _ = spec_l01In.f k x.1 x.2.1 x.2.2
  kernel_rfl
theorem spec_l01In.ok : CtrOk Try.prog 52 spec_l01In.K :=
  CtrOk.of (fn := Try.f52) (cd := spec_l01In.c) (cx := spec_l01In.x) (hs := spec_l01In.h) (by kernel_rfl) (by kernel_rfl) (by kernel_rfl) (by kernel_rfl) tt_ok (envOk_nil) (by kernel_rfl) (by kernel_rfl) (by kernel_rfl) (by kernel_rfl) fun k x r h => (spec_l01In.eq k x).trans h
/-! spec.l13Texts -/
noncomputable def spec_l13Texts.c : Code := bodyOf Try.f68
def spec_l13Texts.h : Nat → Hint := look ⟨[], [], []⟩ [(0, ⟨[0, 3], [], []⟩)]
def spec_l13Texts.ps : List PK := [.one]
def spec_l13Texts.rs : List RK := [.one true]
def spec_l13Texts.vs : List ResultVar := [.tmp 2]
def spec_l13Texts.x : Cx := ⟨tt, look none []⟩
def spec_l13Texts.s0 (_k : Nat) (rec0 : (Int × (List (ByteArray))) → Option (Bool)) (p : (Int × (List (ByteArray)))) : Option (Bool) :=
  (bif (decide (p.1 < (p.2.length : Int))) then (bif ((decide ((0 : Int) ≤ p.1)) && (decide (p.1 < (p.2.length : Int)))) then (p.2[p.1.toNat]?).bind fun x1 => (bif (decide ((x1.size : Int) > (120 : Int))) then some false else rec0 ((IntKind.i64.wrap (p.1 + (1 : Int))), p.2)) else none) else some true)
def spec_l13Texts.l0 (k : Nat) : Nat → (Int × (List (ByteArray))) → Option (Bool)
  | 0 => fun _ => none
  | j + 1 => spec_l13Texts.s0 k (spec_l13Texts.l0 k j)
def spec_l13Texts.S0 (p : (Int × (List (ByteArray)))) : DS := ⟨tl [(0, .at (.whole 0)), (3, .at (.int .i64 p.1))], lookO [(0, .row 9 .str false p.2)]⟩
noncomputable def spec_l13Texts.D0 (k : Nat) (j : Nat) (p : (Int × (List (ByteArray)))) : Option (Bool) := loopK (norm [0] (spec_l13Texts.h 0)) (runK spec_l13Texts.x k 0 [0] spec_l13Texts.h 0 (sub spec_l13Texts.c [1, 0, 1, 0, 0])) j (spec_l13Texts.S0 p) (kBlk 0 (kSeq (runK spec_l13Texts.x k 0 [0] spec_l13Texts.h 0 (sub spec_l13Texts.c [1, 1])) (fin tt spec_l13Texts.ps spec_l13Texts.rs spec_l13Texts.vs .bool)))
theorem spec_l13Texts.D0_eq (k : Nat) : ∀ j, spec_l13Texts.D0 k j = spec_l13Texts.l0 k j := by
  intro j
  induction j with
  | zero => rfl
  | succ j ih =>
    show _ = spec_l13Texts.s0 k (spec_l13Texts.l0 k j)
    rw [← ih]
    funext p
    kernel_rfl
def spec_l13Texts.f (k : Nat) (a0 : List (ByteArray)) : Option (Bool) :=
  spec_l13Texts.l0 k k ((0 : Int), a0)
def spec_l13Texts.K : Ctr := ⟨spec_l13Texts.ps, spec_l13Texts.rs, false, (.sl 9 .str), .bool, fun k x => spec_l13Texts.f k x⟩
theorem spec_l13Texts.eq (k : Nat) (x : (spec_l13Texts.K.I).den) : func spec_l13Texts.x spec_l13Texts.h spec_l13Texts.ps spec_l13Texts.rs spec_l13Texts.vs spec_l13Texts.K.I spec_l13Texts.K.O spec_l13Texts.c k x = spec_l13Texts.K.run k x := by
  show _ = spec_l13Texts.f k x
  unfold spec_l13Texts.f
  rw [← spec_l13Texts.D0_eq k k]
  kernel_rfl
theorem spec_l13Texts.ok : CtrOk Try.prog 68 spec_l13Texts.K :=
  CtrOk.of (fn := Try.f68) (cd := spec_l13Texts.c) (cx := spec_l13Texts.x) (hs := spec_l13Texts.h) (by kernel_rfl) (by kernel_rfl) (by kernel_rfl) (by kernel_rfl) tt_ok (envOk_nil) (by kernel_rfl) (by kernel_rfl) (by kernel_rfl) (by kernel_rfl) fun k x r h => (spec_l13Texts.eq k x).trans h
/-! spec.l13Sent -/
noncomputable def spec_l13Sent.c : Code := bodyOf Try.f69
def spec_l13Sent.h : Nat → Hint := look ⟨[], [], []⟩ [(0, ⟨[1, 3], [16], []⟩)]
def spec_l13Sent.ps : List PK := [.agg 9]
def spec_l13Sent.rs : List RK := [.one true]
def spec_l13Sent.vs : List ResultVar := [.tmp 2]
def spec_l13Sent.x : Cx := ⟨tt, look none [(52, some spec_l01In.K)]⟩
def spec_l13Sent.s0 (k : Nat) (rec0 : (Int × (List (ByteArray)) × (List (Int × ByteArray × Int × Int)) × (List (Int × ByteArray)) × (List (Int)) × (List (ByteArray)) × Int × Int × Int × Int) → Option (Bool)) (p : (Int × (List (ByteArray)) × (List (Int × ByteArray × Int × Int)) × (List (Int × ByteArray)) × (List (Int)) × (List (ByteArray)) × Int × Int × Int × Int)) : Option (Bool) :=
  (bif (decide (p.1 < (p.2.2.1.length : Int))) then (bif ((decide ((0 : Int) ≤ p.1)) && (decide (p.1 < (p.2.2.1.length : Int)))) then (p.2.2.1[p.1.toNat]?).bind fun x1 => (spec_l01In.f k x1.1 (1 : Int) p.2.2.2.2.2.2.2.2.1).bind fun r2 => (bif (!r2) then some false else (bif (decide (p.1 > (0 : Int))) then (bif ((decide ((0 : Int) ≤ (IntKind.i64.wrap (p.1 - (1 : Int))))) && (decide ((IntKind.i64.wrap (p.1 - (1 : Int))) < (p.2.2.1.length : Int)))) then (p.2.2.1[(IntKind.i64.wrap (p.1 - (1 : Int))).toNat]?).bind fun x3 => (bif (decide (x3.1 ≥ x1.1)) then some false else (spec_l01In.f k x1.2.2.1 (0 : Int) (1000000000 : Int)).bind fun r4 => (bif (!r4) then some false else (spec_l01In.f k x1.2.2.2 (1 : Int) (8 : Int)).bind fun r5 => (bif (!r5) then some false else (bif (decide ((x1.2.1.size : Int) > (120 : Int))) then some false else rec0 ((IntKind.i64.wrap (p.1 + (1 : Int))), p.2.1, p.2.2.1, p.2.2.2.1, p.2.2.2.2.1, p.2.2.2.2.2.1, p.2.2.2.2.2.2.1, p.2.2.2.2.2.2.2.1, p.2.2.2.2.2.2.2.2.1, p.2.2.2.2.2.2.2.2.2))))) else none) else (spec_l01In.f k x1.2.2.1 (0 : Int) (1000000000 : Int)).bind fun r6 => (bif (!r6) then some false else (spec_l01In.f k x1.2.2.2 (1 : Int) (8 : Int)).bind fun r7 => (bif (!r7) then some false else (bif (decide ((x1.2.1.size : Int) > (120 : Int))) then some false else rec0 ((IntKind.i64.wrap (p.1 + (1 : Int))), p.2.1, p.2.2.1, p.2.2.2.1, p.2.2.2.2.1, p.2.2.2.2.2.1, p.2.2.2.2.2.2.1, p.2.2.2.2.2.2.2.1, p.2.2.2.2.2.2.2.2.1, p.2.2.2.2.2.2.2.2.2)))))) else none) else some (decide ((p.2.2.1.length : Int) ≤ (4 : Int))))
def spec_l13Sent.l0 (k : Nat) : Nat → (Int × (List (ByteArray)) × (List (Int × ByteArray × Int × Int)) × (List (Int × ByteArray)) × (List (Int)) × (List (ByteArray)) × Int × Int × Int × Int) → Option (Bool)
  | 0 => fun _ => none
  | j + 1 => spec_l13Sent.s0 k (spec_l13Sent.l0 k j)
def spec_l13Sent.S0 (p : (Int × (List (ByteArray)) × (List (Int × ByteArray × Int × Int)) × (List (Int × ByteArray)) × (List (Int)) × (List (ByteArray)) × Int × Int × Int × Int)) : DS := ⟨tl [(1, .at (.bptr 16 0)), (3, .at (.int .i64 p.1))], lookO [(3, .row 9 .str false p.2.1), (4, .row 92 (.two (.int .i64) (.two .str (.two (.int .i64) (.int .i64)))) false p.2.2.1), (6, .row 87 (.two (.int .i64) .str) false p.2.2.2.1), (7, .row 3 (.int .i64) false p.2.2.2.2.1), (8, .row 9 .str false p.2.2.2.2.2.1), (16, .box 36 [.int .i64 p.2.2.2.2.2.2.1, .int .i64 p.2.2.2.2.2.2.2.1, .int .i64 p.2.2.2.2.2.2.2.2.1, .whole 3, .whole 4, .int .i64 p.2.2.2.2.2.2.2.2.2, .whole 6, .whole 7, .whole 8])]⟩
noncomputable def spec_l13Sent.D0 (k : Nat) (j : Nat) (p : (Int × (List (ByteArray)) × (List (Int × ByteArray × Int × Int)) × (List (Int × ByteArray)) × (List (Int)) × (List (ByteArray)) × Int × Int × Int × Int)) : Option (Bool) := loopK (norm [3, 4, 6, 7, 8] (spec_l13Sent.h 0)) (runK spec_l13Sent.x k 0 [3, 4, 6, 7, 8] spec_l13Sent.h 0 (sub spec_l13Sent.c [1, 0, 1, 0, 0])) j (spec_l13Sent.S0 p) (kBlk 0 (kSeq (runK spec_l13Sent.x k 0 [3, 4, 6, 7, 8] spec_l13Sent.h 0 (sub spec_l13Sent.c [1, 1])) (fin tt spec_l13Sent.ps spec_l13Sent.rs spec_l13Sent.vs .bool)))
theorem spec_l13Sent.D0_eq (k : Nat) : ∀ j, spec_l13Sent.D0 k j = spec_l13Sent.l0 k j := by
  intro j
  induction j with
  | zero => rfl
  | succ j ih =>
    show _ = spec_l13Sent.s0 k (spec_l13Sent.l0 k j)
    rw [← ih]
    funext p
    kernel_rfl
def spec_l13Sent.f (k : Nat) (a0_0 : Int) (a0_1 : Int) (a0_2 : Int) (a0_3 : List (ByteArray)) (a0_4 : List (Int × ByteArray × Int × Int)) (a0_5 : Int) (a0_6 : List (Int × ByteArray)) (a0_7 : List (Int)) (a0_8 : List (ByteArray)) : Option (Bool) :=
  spec_l13Sent.l0 k k ((0 : Int), a0_3, a0_4, a0_6, a0_7, a0_8, a0_0, a0_1, a0_2, a0_5)
def spec_l13Sent.K : Ctr := ⟨spec_l13Sent.ps, spec_l13Sent.rs, false, (.two (.int .i64) (.two (.int .i64) (.two (.int .i64) (.two (.sl 9 .str) (.two (.sl 92 (.two (.int .i64) (.two .str (.two (.int .i64) (.int .i64))))) (.two (.int .i64) (.two (.sl 87 (.two (.int .i64) .str)) (.two (.sl 3 (.int .i64)) (.sl 9 .str))))))))), .bool, fun k x => spec_l13Sent.f k x.1 x.2.1 x.2.2.1 x.2.2.2.1 x.2.2.2.2.1 x.2.2.2.2.2.1 x.2.2.2.2.2.2.1 x.2.2.2.2.2.2.2.1 x.2.2.2.2.2.2.2.2⟩
theorem spec_l13Sent.eq (k : Nat) (x : (spec_l13Sent.K.I).den) : func spec_l13Sent.x spec_l13Sent.h spec_l13Sent.ps spec_l13Sent.rs spec_l13Sent.vs spec_l13Sent.K.I spec_l13Sent.K.O spec_l13Sent.c k x = spec_l13Sent.K.run k x := by
  show _ = spec_l13Sent.f k x.1 x.2.1 x.2.2.1 x.2.2.2.1 x.2.2.2.2.1 x.2.2.2.2.2.1 x.2.2.2.2.2.2.1 x.2.2.2.2.2.2.2.1 x.2.2.2.2.2.2.2.2
  unfold spec_l13Sent.f
  rw [← spec_l13Sent.D0_eq k k]
  kernel_rfl
theorem spec_l13Sent.ok : CtrOk Try.prog 69 spec_l13Sent.K :=
  CtrOk.of (fn := Try.f69) (cd := spec_l13Sent.c) (cx := spec_l13Sent.x) (hs := spec_l13Sent.h) (by kernel_rfl) (by kernel_rfl) (by kernel_rfl) (by kernel_rfl) tt_ok (envOk_cons spec_l01In.ok (envOk_nil)) (by kernel_rfl) (by kernel_rfl) (by kernel_rfl) (by kernel_rfl) fun k x r h => (spec_l13Sent.eq k x).trans h
/-! spec.ChanOk -/
noncomputable def spec_ChanOk.c : Code := bodyOf Try.f22
def spec_ChanOk.h : Nat → Hint := look ⟨[], [], []⟩ [(0, ⟨[1, 3], [16], []⟩), (2, ⟨[1, 4], [16], []⟩)]
def spec_ChanOk.ps : List PK := [.agg 9]
def spec_ChanOk.rs : List RK := [.one true]
def spec_ChanOk.vs : List ResultVar := [.tmp 2]
def spec_ChanOk.x : Cx := ⟨tt, look none [(52, some spec_l01In.K), (68, some spec_l13Texts.K), (69, some spec_l13Sent.K)]⟩
def spec_ChanOk.s2 (k : Nat) (rec2 : (Int × (List (ByteArray)) × (List (Int × ByteArray × Int × Int)) × (List (Int × ByteArray)) × (List (Int)) × (List (ByteArray)) × Int × Int × Int × Int) → Option (Bool)) (p : (Int × (List (ByteArray)) × (List (Int × ByteArray × Int × Int)) × (List (Int × ByteArray)) × (List (Int)) × (List (ByteArray)) × Int × Int × Int × Int)) : Option (Bool) :=
  (bif (decide (p.1 < (p.2.2.2.2.1.length : Int))) then (bif ((decide ((0 : Int) ≤ p.1)) && (decide (p.1 < (p.2.2.2.2.1.length : Int)))) then (p.2.2.2.2.1[p.1.toNat]?).bind fun x14 => (spec_l01In.f k x14 (1 : Int) (IntKind.i64.wrap (p.2.2.2.2.2.2.2.2.2 + (4 : Int)))).bind fun r15 => (bif (!r15) then some false else rec2 ((IntKind.i64.wrap (p.1 + (1 : Int))), p.2.1, p.2.2.1, p.2.2.2.1, p.2.2.2.2.1, p.2.2.2.2.2.1, p.2.2.2.2.2.2.1, p.2.2.2.2.2.2.2.1, p.2.2.2.2.2.2.2.2.1, p.2.2.2.2.2.2.2.2.2)) else none) else some true)
def spec_ChanOk.l2 (k : Nat) : Nat → (Int × (List (ByteArray)) × (List (Int × ByteArray × Int × Int)) × (List (Int × ByteArray)) × (List (Int)) × (List (ByteArray)) × Int × Int × Int × Int) → Option (Bool)
  | 0 => fun _ => none
  | j + 1 => spec_ChanOk.s2 k (spec_ChanOk.l2 k j)
def spec_ChanOk.s0 (k : Nat) (rec0 : (Int × (List (ByteArray)) × (List (Int × ByteArray × Int × Int)) × (List (Int × ByteArray)) × (List (Int)) × (List (ByteArray)) × Int × Int × Int × Int) → Option (Bool)) (i2 : (Int × (List (ByteArray)) × (List (Int × ByteArray × Int × Int)) × (List (Int × ByteArray)) × (List (Int)) × (List (ByteArray)) × Int × Int × Int × Int) → Option (Bool)) (p : (Int × (List (ByteArray)) × (List (Int × ByteArray × Int × Int)) × (List (Int × ByteArray)) × (List (Int)) × (List (ByteArray)) × Int × Int × Int × Int)) : Option (Bool) :=
  (bif (decide (p.1 < (p.2.2.2.1.length : Int))) then (bif ((decide ((0 : Int) ≤ p.1)) && (decide (p.1 < (p.2.2.2.1.length : Int)))) then (p.2.2.2.1[p.1.toNat]?).bind fun x8 => (spec_l01In.f k x8.1 (IntKind.i64.wrap (p.2.2.2.2.2.2.2.2.2 + (2 : Int))) (IntKind.i64.wrap (p.2.2.2.2.2.2.2.2.2 + (4 : Int)))).bind fun r9 => (bif (!r9) then some false else (bif (decide (p.1 > (0 : Int))) then (bif ((decide ((0 : Int) ≤ (IntKind.i64.wrap (p.1 - (1 : Int))))) && (decide ((IntKind.i64.wrap (p.1 - (1 : Int))) < (p.2.2.2.1.length : Int)))) then (p.2.2.2.1[(IntKind.i64.wrap (p.1 - (1 : Int))).toNat]?).bind fun x10 => (bif ((decide ((0 : Int) ≤ p.1)) && (decide (p.1 < (p.2.2.2.1.length : Int)))) then (p.2.2.2.1[p.1.toNat]?).bind fun x11 => (bif (decide (x10.1 ≥ x11.1)) then some false else (bif ((decide ((0 : Int) ≤ p.1)) && (decide (p.1 < (p.2.2.2.1.length : Int)))) then (p.2.2.2.1[p.1.toNat]?).bind fun x12 => (bif (decide ((x12.2.size : Int) > (120 : Int))) then some false else rec0 ((IntKind.i64.wrap (p.1 + (1 : Int))), p.2.1, p.2.2.1, p.2.2.2.1, p.2.2.2.2.1, p.2.2.2.2.2.1, p.2.2.2.2.2.2.1, p.2.2.2.2.2.2.2.1, p.2.2.2.2.2.2.2.2.1, p.2.2.2.2.2.2.2.2.2)) else none)) else none) else none) else (bif ((decide ((0 : Int) ≤ p.1)) && (decide (p.1 < (p.2.2.2.1.length : Int)))) then (p.2.2.2.1[p.1.toNat]?).bind fun x13 => (bif (decide ((x13.2.size : Int) > (120 : Int))) then some false else rec0 ((IntKind.i64.wrap (p.1 + (1 : Int))), p.2.1, p.2.2.1, p.2.2.2.1, p.2.2.2.2.1, p.2.2.2.2.2.1, p.2.2.2.2.2.2.1, p.2.2.2.2.2.2.2.1, p.2.2.2.2.2.2.2.2.1, p.2.2.2.2.2.2.2.2.2)) else none))) else none) else i2 ((0 : Int), p.2.1, p.2.2.1, p.2.2.2.1, p.2.2.2.2.1, p.2.2.2.2.2.1, p.2.2.2.2.2.2.1, p.2.2.2.2.2.2.2.1, p.2.2.2.2.2.2.2.2.1, p.2.2.2.2.2.2.2.2.2))
def spec_ChanOk.l0 (k : Nat) : Nat → (Int × (List (ByteArray)) × (List (Int × ByteArray × Int × Int)) × (List (Int × ByteArray)) × (List (Int)) × (List (ByteArray)) × Int × Int × Int × Int) → Option (Bool)
  | 0 => fun _ => none
  | j + 1 => spec_ChanOk.s0 k (spec_ChanOk.l0 k j) (spec_ChanOk.l2 k k)
def spec_ChanOk.S2 (p : (Int × (List (ByteArray)) × (List (Int × ByteArray × Int × Int)) × (List (Int × ByteArray)) × (List (Int)) × (List (ByteArray)) × Int × Int × Int × Int)) : DS := ⟨tl [(1, .at (.bptr 16 0)), (4, .at (.int .i64 p.1))], lookO [(3, .row 9 .str false p.2.1), (4, .row 92 (.two (.int .i64) (.two .str (.two (.int .i64) (.int .i64)))) false p.2.2.1), (6, .row 87 (.two (.int .i64) .str) false p.2.2.2.1), (7, .row 3 (.int .i64) false p.2.2.2.2.1), (8, .row 9 .str false p.2.2.2.2.2.1), (16, .box 36 [.int .i64 p.2.2.2.2.2.2.1, .int .i64 p.2.2.2.2.2.2.2.1, .int .i64 p.2.2.2.2.2.2.2.2.1, .whole 3, .whole 4, .int .i64 p.2.2.2.2.2.2.2.2.2, .whole 6, .whole 7, .whole 8])]⟩
def spec_ChanOk.S0 (p : (Int × (List (ByteArray)) × (List (Int × ByteArray × Int × Int)) × (List (Int × ByteArray)) × (List (Int)) × (List (ByteArray)) × Int × Int × Int × Int)) : DS := ⟨tl [(1, .at (.bptr 16 0)), (3, .at (.int .i64 p.1))], lookO [(3, .row 9 .str false p.2.1), (4, .row 92 (.two (.int .i64) (.two .str (.two (.int .i64) (.int .i64)))) false p.2.2.1), (6, .row 87 (.two (.int .i64) .str) false p.2.2.2.1), (7, .row 3 (.int .i64) false p.2.2.2.2.1), (8, .row 9 .str false p.2.2.2.2.2.1), (16, .box 36 [.int .i64 p.2.2.2.2.2.2.1, .int .i64 p.2.2.2.2.2.2.2.1, .int .i64 p.2.2.2.2.2.2.2.2.1, .whole 3, .whole 4, .int .i64 p.2.2.2.2.2.2.2.2.2, .whole 6, .whole 7, .whole 8])]⟩
noncomputable def spec_ChanOk.D2 (k : Nat) (j : Nat) (p : (Int × (List (ByteArray)) × (List (Int × ByteArray × Int × Int)) × (List (Int × ByteArray)) × (List (Int)) × (List (ByteArray)) × Int × Int × Int × Int)) : Option (Bool) := loopK (norm [3, 4, 6, 7, 8] (spec_ChanOk.h 2)) (runK spec_ChanOk.x k 0 [3, 4, 6, 7, 8] spec_ChanOk.h 2 (sub spec_ChanOk.c [1, 1, 1, 0, 1, 0, 0])) j (spec_ChanOk.S2 p) (kBlk 2 (kSeq (runK spec_ChanOk.x k 0 [3, 4, 6, 7, 8] spec_ChanOk.h 0 (sub spec_ChanOk.c [1, 1, 1, 1])) (fin tt spec_ChanOk.ps spec_ChanOk.rs spec_ChanOk.vs .bool)))
noncomputable def spec_ChanOk.D0 (k : Nat) (j : Nat) (p : (Int × (List (ByteArray)) × (List (Int × ByteArray × Int × Int)) × (List (Int × ByteArray)) × (List (Int)) × (List (ByteArray)) × Int × Int × Int × Int)) : Option (Bool) := loopK (norm [3, 4, 6, 7, 8] (spec_ChanOk.h 0)) (runK spec_ChanOk.x k 0 [3, 4, 6, 7, 8] spec_ChanOk.h 0 (sub spec_ChanOk.c [1, 1, 0, 1, 0, 0])) j (spec_ChanOk.S0 p) (kBlk 0 (kSeq (runK spec_ChanOk.x k 0 [3, 4, 6, 7, 8] spec_ChanOk.h 0 (sub spec_ChanOk.c [1, 1, 1])) (fin tt spec_ChanOk.ps spec_ChanOk.rs spec_ChanOk.vs .bool)))
theorem spec_ChanOk.D2_eq (k : Nat) : ∀ j, spec_ChanOk.D2 k j = spec_ChanOk.l2 k j := by
  intro j
  induction j with
  | zero => rfl
  | succ j ih =>
    show _ = spec_ChanOk.s2 k (spec_ChanOk.l2 k j)
    rw [← ih]
    funext p
    kernel_rfl
theorem spec_ChanOk.D0_eq (k : Nat) : ∀ j, spec_ChanOk.D0 k j = spec_ChanOk.l0 k j := by
  intro j
  induction j with
  | zero => rfl
  | succ j ih =>
    show _ = spec_ChanOk.s0 k (spec_ChanOk.l0 k j) (spec_ChanOk.l2 k k)
    rw [← ih, ← spec_ChanOk.D2_eq k k]
    funext p
    kernel_rfl
def spec_ChanOk.f (k : Nat) (a0_0 : Int) (a0_1 : Int) (a0_2 : Int) (a0_3 : List (ByteArray)) (a0_4 : List (Int × ByteArray × Int × Int)) (a0_5 : Int) (a0_6 : List (Int × ByteArray)) (a0_7 : List (Int)) (a0_8 : List (ByteArray)) : Option (Bool) :=
  (spec_l01In.f k a0_0 (1 : Int) (99 : Int)).bind fun r1 => (bif (!r1) then some false else (spec_l01In.f k a0_1 (1 : Int) (99 : Int)).bind fun r2 => (bif (!r2) then some false else (spec_l01In.f k a0_2 (0 : Int) (1000 : Int)).bind fun r3 => (bif (!r3) then some false else (bif (decide ((a0_3.length : Int) > (30 : Int))) then some false else (spec_l13Texts.f k a0_3).bind fun r4 => (bif (!r4) then some false else (spec_l13Sent.f k a0_0 a0_1 a0_2 a0_3 a0_4 a0_5 a0_6 a0_7 a0_8).bind fun r5 => (bif (!r5) then some false else (spec_l01In.f k a0_5 (0 : Int) (1000 : Int)).bind fun r6 => (bif (!r6) then some false else (bif ((a0_8.length : Int) != a0_5) then some false else (spec_l13Texts.f k a0_8).bind fun r7 => (bif (!r7) then some false else (bif (decide ((a0_7.length : Int) > (4 : Int))) then some false else spec_ChanOk.l0 k k ((0 : Int), a0_3, a0_4, a0_6, a0_7, a0_8, a0_0, a0_1, a0_2, a0_5)))))))))))
def spec_ChanOk.K : Ctr := ⟨spec_ChanOk.ps, spec_ChanOk.rs, false, (.two (.int .i64) (.two (.int .i64) (.two (.int .i64) (.two (.sl 9 .str) (.two (.sl 92 (.two (.int .i64) (.two .str (.two (.int .i64) (.int .i64))))) (.two (.int .i64) (.two (.sl 87 (.two (.int .i64) .str)) (.two (.sl 3 (.int .i64)) (.sl 9 .str))))))))), .bool, fun k x => spec_ChanOk.f k x.1 x.2.1 x.2.2.1 x.2.2.2.1 x.2.2.2.2.1 x.2.2.2.2.2.1 x.2.2.2.2.2.2.1 x.2.2.2.2.2.2.2.1 x.2.2.2.2.2.2.2.2⟩
theorem spec_ChanOk.eq (k : Nat) (x : (spec_ChanOk.K.I).den) : func spec_ChanOk.x spec_ChanOk.h spec_ChanOk.ps spec_ChanOk.rs spec_ChanOk.vs spec_ChanOk.K.I spec_ChanOk.K.O spec_ChanOk.c k x = spec_ChanOk.K.run k x := by
  show _ = spec_ChanOk.f k x.1 x.2.1 x.2.2.1 x.2.2.2.1 x.2.2.2.2.1 x.2.2.2.2.2.1 x.2.2.2.2.2.2.1 x.2.2.2.2.2.2.2.1 x.2.2.2.2.2.2.2.2
  unfold spec_ChanOk.f
  rw [← spec_ChanOk.D0_eq k k]
  kernel_rfl
theorem spec_ChanOk.ok : CtrOk Try.prog 22 spec_ChanOk.K :=
  CtrOk.of (fn := Try.f22) (cd := spec_ChanOk.c) (cx := spec_ChanOk.x) (hs := spec_ChanOk.h) (by kernel_rfl) (by kernel_rfl) (by kernel_rfl) (by kernel_rfl) tt_ok (envOk_cons spec_l01In.ok (envOk_cons spec_l13Texts.ok (envOk_cons spec_l13Sent.ok (envOk_nil)))) (by kernel_rfl) (by kernel_rfl) (by kernel_rfl) (by kernel_rfl) fun k x r h => (spec_ChanOk.eq k x).trans h
/-! spec.Push -/
noncomputable def spec_Push.c : Code := bodyOf Try.f25
def spec_Push.h : Nat → Hint := look ⟨[], [], []⟩ []
def spec_Push.ps : List PK := [.agg 9, .one]
def spec_Push.rs : List RK := [.agg 9 true, .one true]
def spec_Push.vs : List ResultVar := [.cell 4 36, .tmp 5]
def spec_Push.x : Cx := ⟨tt, look none [(75, some spec_l13Copy.K), (22, some spec_ChanOk.K)]⟩
def spec_Push.f (k : Nat) (a0_0 : Int) (a0_1 : Int) (a0_2 : Int) (a0_3 : List (ByteArray)) (a0_4 : List (Int × ByteArray × Int × Int)) (a0_5 : Int) (a0_6 : List (Int × ByteArray)) (a0_7 : List (Int)) (a0_8 : List (ByteArray)) (a1 : ByteArray) : Option (Int × Int × Int × (List (ByteArray)) × (List (Int × ByteArray × Int × Int)) × Int × (List (Int × ByteArray)) × (List (Int)) × (List (ByteArray)) × Bool) :=
  (spec_l13Copy.f k a0_0 a0_1 a0_2 a0_3 a0_4 a0_5 a0_6 a0_7 a0_8).bind fun r1 => (spec_ChanOk.f k a0_0 a0_1 a0_2 a0_3 a0_4 a0_5 a0_6 a0_7 a0_8).bind fun r2 => (bif (!r2) then some (r1.1, r1.2.1, r1.2.2.1, r1.2.2.2.1, r1.2.2.2.2.1, r1.2.2.2.2.2.1, r1.2.2.2.2.2.2.1, r1.2.2.2.2.2.2.2.1, r1.2.2.2.2.2.2.2.2, false) else (bif (decide ((a1.size : Int) > (120 : Int))) then some (r1.1, r1.2.1, r1.2.2.1, r1.2.2.2.1, r1.2.2.2.2.1, r1.2.2.2.2.2.1, r1.2.2.2.2.2.2.1, r1.2.2.2.2.2.2.2.1, r1.2.2.2.2.2.2.2.2, false) else (bif (decide ((a0_3.length : Int) ≥ (30 : Int))) then some (r1.1, r1.2.1, r1.2.2.1, r1.2.2.2.1, r1.2.2.2.2.1, r1.2.2.2.2.2.1, r1.2.2.2.2.2.2.1, r1.2.2.2.2.2.2.2.1, r1.2.2.2.2.2.2.2.2, false) else (bif (decide ((IntKind.i64.wrap (a0_2 + (a0_3.length : Int))) ≥ (1000 : Int))) then some (r1.1, r1.2.1, r1.2.2.1, r1.2.2.2.1, r1.2.2.2.2.1, r1.2.2.2.2.2.1, r1.2.2.2.2.2.2.1, r1.2.2.2.2.2.2.2.1, r1.2.2.2.2.2.2.2.2, false) else (bif decide ((r1.2.2.2.1.length + [a1].length) * 16 ≤ 140737488355328) then some (r1.1, r1.2.1, r1.2.2.1, (r1.2.2.2.1 ++ [a1]), r1.2.2.2.2.1, r1.2.2.2.2.2.1, r1.2.2.2.2.2.2.1, r1.2.2.2.2.2.2.2.1, r1.2.2.2.2.2.2.2.2, true) else none)))))
def spec_Push.K : Ctr := ⟨spec_Push.ps, spec_Push.rs, false, (.two (.int .i64) (.two (.int .i64) (.two (.int .i64) (.two (.sl 9 .str) (.two (.sl 92 (.two (.int .i64) (.two .str (.two (.int .i64) (.int .i64))))) (.two (.int .i64) (.two (.sl 87 (.two (.int .i64) .str)) (.two (.sl 3 (.int .i64)) (.two (.sl 9 .str) .str))))))))), (.two (.int .i64) (.two (.int .i64) (.two (.int .i64) (.two (.sl 9 .str) (.two (.sl 92 (.two (.int .i64) (.two .str (.two (.int .i64) (.int .i64))))) (.two (.int .i64) (.two (.sl 87 (.two (.int .i64) .str)) (.two (.sl 3 (.int .i64)) (.two (.sl 9 .str) .bool))))))))), fun k x => spec_Push.f k x.1 x.2.1 x.2.2.1 x.2.2.2.1 x.2.2.2.2.1 x.2.2.2.2.2.1 x.2.2.2.2.2.2.1 x.2.2.2.2.2.2.2.1 x.2.2.2.2.2.2.2.2.1 x.2.2.2.2.2.2.2.2.2⟩
theorem spec_Push.eq (k : Nat) (x : (spec_Push.K.I).den) : func spec_Push.x spec_Push.h spec_Push.ps spec_Push.rs spec_Push.vs spec_Push.K.I spec_Push.K.O spec_Push.c k x = spec_Push.K.run k x := by
  show _ = spec_Push.f k x.1 x.2.1 x.2.2.1 x.2.2.2.1 x.2.2.2.2.1 x.2.2.2.2.2.1 x.2.2.2.2.2.2.1 x.2.2.2.2.2.2.2.1 x.2.2.2.2.2.2.2.2.1 x.2.2.2.2.2.2.2.2.2
  kernel_rfl
theorem spec_Push.ok : CtrOk Try.prog 25 spec_Push.K :=
  CtrOk.of (fn := Try.f25) (cd := spec_Push.c) (cx := spec_Push.x) (hs := spec_Push.h) (by kernel_rfl) (by kernel_rfl) (by kernel_rfl) (by kernel_rfl) tt_ok (envOk_cons spec_l13Copy.ok (envOk_cons spec_ChanOk.ok (envOk_nil))) (by kernel_rfl) (by kernel_rfl) (by kernel_rfl) (by kernel_rfl) fun k x r h => (spec_Push.eq k x).trans h
/-! impl.copyTexts -/
noncomputable def impl_copyTexts.c : Code := bodyOf Try.f106
def impl_copyTexts.h : Nat → Hint := look ⟨[], [], []⟩ []
def impl_copyTexts.ps : List PK := [.one]
def impl_copyTexts.rs : List RK := [.one true]
def impl_copyTexts.vs : List ResultVar := [.tmp 2]
def impl_copyTexts.x : Cx := ⟨tt, look none []⟩
def impl_copyTexts.f (_k : Nat) (a0 : List (ByteArray)) : Option ((List (ByteArray))) :=
  (bif decide ((([] : List (ByteArray)).length + a0.length) * 16 ≤ 140737488355328) then some (([] : List (ByteArray)) ++ a0) else none)
def impl_copyTexts.K : Ctr := ⟨impl_copyTexts.ps, impl_copyTexts.rs, false, (.sl 9 .str), (.sl 9 .str), fun k x => impl_copyTexts.f k x⟩
theorem impl_copyTexts.eq (k : Nat) (x : (impl_copyTexts.K.I).den) : func impl_copyTexts.x impl_copyTexts.h impl_copyTexts.ps impl_copyTexts.rs impl_copyTexts.vs impl_copyTexts.K.I impl_copyTexts.K.O impl_copyTexts.c k x = impl_copyTexts.K.run k x := by
  show _ = impl_copyTexts.f k x
  kernel_rfl
theorem impl_copyTexts.ok : CtrOk Try.prog 106 impl_copyTexts.K :=
  CtrOk.of (fn := Try.f106) (cd := impl_copyTexts.c) (cx := impl_copyTexts.x) (hs := impl_copyTexts.h) (by kernel_rfl) (by kernel_rfl) (by kernel_rfl) (by kernel_rfl) tt_ok (envOk_nil) (by kernel_rfl) (by kernel_rfl) (by kernel_rfl) (by kernel_rfl) fun k x r h => (impl_copyTexts.eq k x).trans h
/-! impl.copyInts -/
noncomputable def impl_copyInts.c : Code := bodyOf Try.f79
def impl_copyInts.h : Nat → Hint := look ⟨[], [], []⟩ []
def impl_copyInts.ps : List PK := [.one]
def impl_copyInts.rs : List RK := [.one true]
def impl_copyInts.vs : List ResultVar := [.tmp 2]
def impl_copyInts.x : Cx := ⟨tt, look none []⟩
def impl_copyInts.f (_k : Nat) (a0 : List (Int)) : Option ((List (Int))) :=
  (bif decide ((([] : List (Int)).length + a0.length) * 8 ≤ 140737488355328) then some (([] : List (Int)) ++ a0) else none)
def impl_copyInts.K : Ctr := ⟨impl_copyInts.ps, impl_copyInts.rs, false, (.sl 3 (.int .i64)), (.sl 3 (.int .i64)), fun k x => impl_copyInts.f k x⟩
theorem impl_copyInts.eq (k : Nat) (x : (impl_copyInts.K.I).den) : func impl_copyInts.x impl_copyInts.h impl_copyInts.ps impl_copyInts.rs impl_copyInts.vs impl_copyInts.K.I impl_copyInts.K.O impl_copyInts.c k x = impl_copyInts.K.run k x := by
  show _ = impl_copyInts.f k x
  kernel_rfl
theorem impl_copyInts.ok : CtrOk Try.prog 79 impl_copyInts.K :=
  CtrOk.of (fn := Try.f79) (cd := impl_copyInts.c) (cx := impl_copyInts.x) (hs := impl_copyInts.h) (by kernel_rfl) (by kernel_rfl) (by kernel_rfl) (by kernel_rfl) tt_ok (envOk_nil) (by kernel_rfl) (by kernel_rfl) (by kernel_rfl) (by kernel_rfl) fun k x r h => (impl_copyInts.eq k x).trans h
/-! impl.copyChan -/
noncomputable def impl_copyChan.c : Code := bodyOf Try.f76
def impl_copyChan.h : Nat → Hint := look ⟨[], [], []⟩ []
def impl_copyChan.ps : List PK := [.agg 9]
def impl_copyChan.rs : List RK := [.agg 9 true]
def impl_copyChan.vs : List ResultVar := [.cell 2 36]
def impl_copyChan.x : Cx := ⟨tt, look none [(106, some impl_copyTexts.K), (79, some impl_copyInts.K)]⟩
def impl_copyChan.f (k : Nat) (a0_0 : Int) (a0_1 : Int) (a0_2 : Int) (a0_3 : List (ByteArray)) (a0_4 : List (Int × ByteArray × Int × Int)) (a0_5 : Int) (a0_6 : List (Int × ByteArray)) (a0_7 : List (Int)) (a0_8 : List (ByteArray)) : Option (Int × Int × Int × (List (ByteArray)) × (List (Int × ByteArray × Int × Int)) × Int × (List (Int × ByteArray)) × (List (Int)) × (List (ByteArray))) :=
  (impl_copyTexts.f k a0_3).bind fun r1 => (impl_copyTexts.f k a0_8).bind fun r2 => (impl_copyInts.f k a0_7).bind fun r3 => (bif decide ((([] : List (Int × ByteArray × Int × Int)).length + a0_4.length) * 40 ≤ 140737488355328) then (bif decide ((([] : List (Int × ByteArray)).length + a0_6.length) * 24 ≤ 140737488355328) then some (a0_0, a0_1, a0_2, r1, (([] : List (Int × ByteArray × Int × Int)) ++ a0_4), a0_5, (([] : List (Int × ByteArray)) ++ a0_6), r3, r2) else none) else none)
def impl_copyChan.K : Ctr := ⟨impl_copyChan.ps, impl_copyChan.rs, false, (.two (.int .i64) (.two (.int .i64) (.two (.int .i64) (.two (.sl 9 .str) (.two (.sl 92 (.two (.int .i64) (.two .str (.two (.int .i64) (.int .i64))))) (.two (.int .i64) (.two (.sl 87 (.two (.int .i64) .str)) (.two (.sl 3 (.int .i64)) (.sl 9 .str))))))))), (.two (.int .i64) (.two (.int .i64) (.two (.int .i64) (.two (.sl 9 .str) (.two (.sl 92 (.two (.int .i64) (.two .str (.two (.int .i64) (.int .i64))))) (.two (.int .i64) (.two (.sl 87 (.two (.int .i64) .str)) (.two (.sl 3 (.int .i64)) (.sl 9 .str))))))))), fun k x => impl_copyChan.f k x.1 x.2.1 x.2.2.1 x.2.2.2.1 x.2.2.2.2.1 x.2.2.2.2.2.1 x.2.2.2.2.2.2.1 x.2.2.2.2.2.2.2.1 x.2.2.2.2.2.2.2.2⟩
theorem impl_copyChan.eq (k : Nat) (x : (impl_copyChan.K.I).den) : func impl_copyChan.x impl_copyChan.h impl_copyChan.ps impl_copyChan.rs impl_copyChan.vs impl_copyChan.K.I impl_copyChan.K.O impl_copyChan.c k x = impl_copyChan.K.run k x := by
  show _ = impl_copyChan.f k x.1 x.2.1 x.2.2.1 x.2.2.2.1 x.2.2.2.2.1 x.2.2.2.2.2.1 x.2.2.2.2.2.2.1 x.2.2.2.2.2.2.2.1 x.2.2.2.2.2.2.2.2
  kernel_rfl
theorem impl_copyChan.ok : CtrOk Try.prog 76 impl_copyChan.K :=
  CtrOk.of (fn := Try.f76) (cd := impl_copyChan.c) (cx := impl_copyChan.x) (hs := impl_copyChan.h) (by kernel_rfl) (by kernel_rfl) (by kernel_rfl) (by kernel_rfl) tt_ok (envOk_cons impl_copyTexts.ok (envOk_cons impl_copyInts.ok (envOk_nil))) (by kernel_rfl) (by kernel_rfl) (by kernel_rfl) (by kernel_rfl) fun k x r h => (impl_copyChan.eq k x).trans h
/-! impl.within -/
noncomputable def impl_within.c : Code := bodyOf Try.f73
def impl_within.h : Nat → Hint := look ⟨[], [], []⟩ []
def impl_within.ps : List PK := [.one, .one, .one]
def impl_within.rs : List RK := [.one true]
def impl_within.vs : List ResultVar := [.tmp 6]
def impl_within.x : Cx := ⟨tt, look none []⟩
def impl_within.f (_k : Nat) (a0 : Int) (a1 : Int) (a2 : Int) : Option (Bool) :=
  (bif (decide (a0 ≥ a1)) then some (decide (a0 ≤ a2)) else some false)
def impl_within.K : Ctr := ⟨impl_within.ps, impl_within.rs, false, (.two (.int .i64) (.two (.int .i64) (.int .i64))), .bool, fun k x => impl_within.f k x.1 x.2.1 x.2.2⟩
theorem impl_within.eq (k : Nat) (x : (impl_within.K.I).den) : func impl_within.x impl_within.h impl_within.ps impl_within.rs impl_within.vs impl_within.K.I impl_within.K.O impl_within.c k x = impl_within.K.run k x := by
  show _ = impl_within.f k x.1 x.2.1 x.2.2
  kernel_rfl
theorem impl_within.ok : CtrOk Try.prog 73 impl_within.K :=
  CtrOk.of (fn := Try.f73) (cd := impl_within.c) (cx := impl_within.x) (hs := impl_within.h) (by kernel_rfl) (by kernel_rfl) (by kernel_rfl) (by kernel_rfl) tt_ok (envOk_nil) (by kernel_rfl) (by kernel_rfl) (by kernel_rfl) (by kernel_rfl) fun k x r h => (impl_within.eq k x).trans h
/-! impl.isId -/
noncomputable def impl_isId.c : Code := bodyOf Try.f53
def impl_isId.h : Nat → Hint := look ⟨[], [], []⟩ []
def impl_isId.ps : List PK := [.one]
def impl_isId.rs : List RK := [.one true]
def impl_isId.vs : List ResultVar := [.tmp 2]
def impl_isId.x : Cx := ⟨tt, look none [(73, some impl_within.K)]⟩
def impl_isId.f (k : Nat) (a0 : Int) : Option (Bool) :=
  (impl_within.f k a0 (1 : Int) (99 : Int)).bind fun r1 => some r1
def impl_isId.K : Ctr := ⟨impl_isId.ps, impl_isId.rs, false, (.int .i64), .bool, fun k x => impl_isId.f k x⟩
theorem impl_isId.eq (k : Nat) (x : (impl_isId.K.I).den) : func impl_isId.x impl_isId.h impl_isId.ps impl_isId.rs impl_isId.vs impl_isId.K.I impl_isId.K.O impl_isId.c k x = impl_isId.K.run k x := by
  show _ = impl_isId.f k x
  kernel_rfl
theorem impl_isId.ok : CtrOk Try.prog 53 impl_isId.K :=
  CtrOk.of (fn := Try.f53) (cd := impl_isId.c) (cx := impl_isId.x) (hs := impl_isId.h) (by kernel_rfl) (by kernel_rfl) (by kernel_rfl) (by kernel_rfl) tt_ok (envOk_cons impl_within.ok (envOk_nil)) (by kernel_rfl) (by kernel_rfl) (by kernel_rfl) (by kernel_rfl) fun k x r h => (impl_isId.eq k x).trans h
/-! impl.textsOk -/
noncomputable def impl_textsOk.c : Code := bodyOf Try.f74
def impl_textsOk.h : Nat → Hint := look ⟨[], [], []⟩ [(0, ⟨[7, 8, 9], [], []⟩), (2, ⟨[7, 8, 9, 13, 14, 15], [], [(.t 13, 384, 9, .str)]⟩)]
def impl_textsOk.ps : List PK := [.one]
def impl_textsOk.rs : List RK := [.one true]
def impl_textsOk.vs : List ResultVar := [.tmp 2]
def impl_textsOk.x : Cx := ⟨tt, look none []⟩
def impl_textsOk.s2 (_k : Nat) (rec0 : (Int × Int × (List ((List (ByteArray))))) → Option (Bool)) (rec2 : (Int × Int × Int × Int × (List ((List (ByteArray)))) × (List (ByteArray))) → Option (Bool)) (p : (Int × Int × Int × Int × (List ((List (ByteArray)))) × (List (ByteArray)))) : Option (Bool) :=
  (bif (decide (p.2.2.2.1 < p.2.2.1)) then (bif ((decide ((0 : Int) ≤ p.2.2.2.1)) && (decide (p.2.2.2.1 < (p.2.2.2.2.2.length : Int)))) then (p.2.2.2.2.2[p.2.2.2.1.toNat]?).bind fun x2 => (bif (decide ((x2.size : Int) > (120 : Int))) then some false else rec2 (p.1, p.2.1, p.2.2.1, (IntKind.i64.wrap (p.2.2.2.1 + (1 : Int))), p.2.2.2.2.1, p.2.2.2.2.2)) else none) else rec0 (p.1, (IntKind.i64.wrap (p.2.1 + (1 : Int))), p.2.2.2.2.1))
def impl_textsOk.l2 (k : Nat) (rec0 : (Int × Int × (List ((List (ByteArray))))) → Option (Bool)) : Nat → (Int × Int × Int × Int × (List ((List (ByteArray)))) × (List (ByteArray))) → Option (Bool)
  | 0 => fun _ => none
  | j + 1 => impl_textsOk.s2 k rec0 (impl_textsOk.l2 k rec0 j)
def impl_textsOk.s0 (_k : Nat) (_rec0 : (Int × Int × (List ((List (ByteArray))))) → Option (Bool)) (i2 : (Int × Int × Int × Int × (List ((List (ByteArray)))) × (List (ByteArray))) → Option (Bool)) (p : (Int × Int × (List ((List (ByteArray)))))) : Option (Bool) :=
  (bif (decide (p.2.1 < p.1)) then (bif ((decide ((0 : Int) ≤ p.2.1)) && (decide (p.2.1 < (p.2.2.length : Int)))) then (p.2.2[p.2.1.toNat]?).bind fun x1 => i2 (p.1, p.2.1, (x1.length : Int), (0 : Int), p.2.2, x1) else none) else some true)
def impl_textsOk.l0 (k : Nat) : Nat → (Int × Int × (List ((List (ByteArray))))) → Option (Bool)
  | 0 => fun _ => none
  | j + 1 => impl_textsOk.s0 k (impl_textsOk.l0 k j) (impl_textsOk.l2 k (impl_textsOk.l0 k j) k)
def impl_textsOk.S2 (p : (Int × Int × Int × Int × (List ((List (ByteArray)))) × (List (ByteArray)))) : DS := ⟨tl [(7, .at (.whole 0)), (8, .at (.int .i64 p.1)), (9, .at (.int .i64 p.2.1)), (13, .at (.whole 384)), (14, .at (.int .i64 p.2.2.1)), (15, .at (.int .i64 p.2.2.2.1))], lookO [(0, .row 32 (.sl 9 .str) false p.2.2.2.2.1), (384, .row 9 .str false p.2.2.2.2.2)]⟩
def impl_textsOk.S0 (p : (Int × Int × (List ((List (ByteArray)))))) : DS := ⟨tl [(7, .at (.whole 0)), (8, .at (.int .i64 p.1)), (9, .at (.int .i64 p.2.1))], lookO [(0, .row 32 (.sl 9 .str) false p.2.2)]⟩
noncomputable def impl_textsOk.D2 (k : Nat) (j0 : Nat) (j : Nat) (p : (Int × Int × Int × Int × (List ((List (ByteArray)))) × (List (ByteArray)))) : Option (Bool) := loopK (norm [0] (impl_textsOk.h 2)) (runK impl_textsOk.x k 0 [0] impl_textsOk.h 2 (sub impl_textsOk.c [1, 0, 1, 0, 0, 1, 1, 0, 0, 1, 1, 0, 0])) j (impl_textsOk.S2 p) (kBlk 2 (kBlk 1 (kSeq (runK impl_textsOk.x k 0 [0] impl_textsOk.h 0 (sub impl_textsOk.c [1, 0, 1, 0, 0, 1, 1, 1])) (kSeq (fun s' K => (norm [0] (impl_textsOk.h 0) s').bind fun s => loopK (norm [0] (impl_textsOk.h 0)) (runK impl_textsOk.x k 0 [0] impl_textsOk.h 0 (sub impl_textsOk.c [1, 0, 1, 0, 0])) j0 s K) (kBlk 0 (kSeq (runK impl_textsOk.x k 0 [0] impl_textsOk.h 0 (sub impl_textsOk.c [1, 1])) (fin tt impl_textsOk.ps impl_textsOk.rs impl_textsOk.vs .bool)))))))
noncomputable def impl_textsOk.D0 (k : Nat) (j : Nat) (p : (Int × Int × (List ((List (ByteArray)))))) : Option (Bool) := loopK (norm [0] (impl_textsOk.h 0)) (runK impl_textsOk.x k 0 [0] impl_textsOk.h 0 (sub impl_textsOk.c [1, 0, 1, 0, 0])) j (impl_textsOk.S0 p) (kBlk 0 (kSeq (runK impl_textsOk.x k 0 [0] impl_textsOk.h 0 (sub impl_textsOk.c [1, 1])) (fin tt impl_textsOk.ps impl_textsOk.rs impl_textsOk.vs .bool)))
theorem impl_textsOk.D2_eq (k : Nat) (j0 : Nat) : ∀ j, impl_textsOk.D2 k j0 j = impl_textsOk.l2 k (impl_textsOk.D0 k j0) j := by
  intro j
  induction j with
  | zero => rfl
  | succ j ih =>
    show _ = impl_textsOk.s2 k (impl_textsOk.D0 k j0) (impl_textsOk.l2 k (impl_textsOk.D0 k j0) j)
    rw [← ih]
    funext p
    kernel_rfl
theorem impl_textsOk.D0_eq (k : Nat) : ∀ j, impl_textsOk.D0 k j = impl_textsOk.l0 k j := by
  intro j
  induction j with
  | zero => rfl
  | succ j ih =>
    show _ = impl_textsOk.s0 k (impl_textsOk.l0 k j) (impl_textsOk.l2 k (impl_textsOk.l0 k j) k)
    rw [← ih, ← impl_textsOk.D2_eq k j k]
    funext p
    kernel_rfl
def impl_textsOk.f (k : Nat) (a0 : List ((List (ByteArray)))) : Option (Bool) :=
  impl_textsOk.l0 k k ((a0.length : Int), (0 : Int), a0)
def impl_textsOk.K : Ctr := ⟨impl_textsOk.ps, impl_textsOk.rs, false, (.sl 32 (.sl 9 .str)), .bool, fun k x => impl_textsOk.f k x⟩
theorem impl_textsOk.eq (k : Nat) (x : (impl_textsOk.K.I).den) : func impl_textsOk.x impl_textsOk.h impl_textsOk.ps impl_textsOk.rs impl_textsOk.vs impl_textsOk.K.I impl_textsOk.K.O impl_textsOk.c k x = impl_textsOk.K.run k x := by
  show _ = impl_textsOk.f k x
  unfold impl_textsOk.f
  rw [← impl_textsOk.D0_eq k k]
  kernel_rfl
theorem impl_textsOk.ok : CtrOk Try.prog 74 impl_textsOk.K :=
  CtrOk.of (fn := Try.f74) (cd := impl_textsOk.c) (cx := impl_textsOk.x) (hs := impl_textsOk.h) (by kernel_rfl) (by kernel_rfl) (by kernel_rfl) (by kernel_rfl) tt_ok (envOk_nil) (by kernel_rfl) (by kernel_rfl) (by kernel_rfl) (by kernel_rfl) fun k x r h => (impl_textsOk.eq k x).trans h
end Go.Proofs.Ytpheniajdbbphaa.DI
