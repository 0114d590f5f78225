/- FnExactSend: functions as plain Lean, in the machine of values. -/
import Derived.Test.YtpheniajdbbphaaVFnExactSend1
namespace Go.Proofs.Ytpheniajdbbphaa.DI
open Go
set_option linter.unusedVariables false
/-! spec.l01In -/
noncomputable def spec_l01In.c : Code := bodyOf Try.f52
def spec_l01In.h : Nat → Hint := look ⟨[], [], []⟩ []
def spec_l01In.ps : List PK := [.one, .one, .one]
def spec_l01In.rs : List RK := [.one true]
def spec_l01In.vs : List ResultVar := [.tmp 6]
def spec_l01In.x : Cx := ⟨tt, look none []⟩
def spec_l01In.f (_k : Nat) (a0 : Int) (a1 : Int) (a2 : Int) : Option (Bool) :=
  (bif (decide (a0 ≥ a1)) then some (decide (a0 ≤ a2)) else some false)
def spec_l01In.K : Ctr := ⟨spec_l01In.ps, spec_l01In.rs, false, (.two (.int .i64) (.two (.int .i64) (.int .i64))), .bool, fun k x => spec_l01In.f k x.1 x.2.1 x.2.2⟩
theorem spec_l01In.eq (k : Nat) (x : (spec_l01In.K.I).den) : func spec_l01In.x spec_l01In.h spec_l01In.ps spec_l01In.rs spec_l01In.vs spec_l01In.K.I spec_l01In.K.O spec_l01In.c k x = spec_l01In.K.run k x := by
  show _ = spec_l01In.f k x.1 x.2.1 x.2.2
  kernel_rfl
theorem spec_l01In.ok : CtrOk Try.prog 52 spec_l01In.K :=
  CtrOk.of (fn := Try.f52) (cd := spec_l01In.c) (cx := spec_l01In.x) (hs := spec_l01In.h) (by kernel_rfl) (by kernel_rfl) (by kernel_rfl) (by kernel_rfl) tt_ok (envOk_nil) (by kernel_rfl) (by kernel_rfl) (by kernel_rfl) (by kernel_rfl) fun k x r h => (spec_l01In.eq k x).trans h
/-! spec.l13Texts -/
noncomputable def spec_l13Texts.c : Code := bodyOf Try.f68
def spec_l13Texts.h : Nat → Hint := look ⟨[], [], []⟩ [(0, ⟨[0, 3], [], []⟩)]
def spec_l13Texts.ps : List PK := [.one]
def spec_l13Texts.rs : List RK := [.one true]
def spec_l13Texts.vs : List ResultVar := [.tmp 2]
def spec_l13Texts.x : Cx := ⟨tt, look none []⟩
def spec_l13Texts.s0 (_k : Nat) (rec0 : (Int × (List (ByteArray))) → Option (Bool)) (p : (Int × (List (ByteArray)))) : Option (Bool) :=
  (bif (decide (p.1 < (p.2.length : Int))) then (bif ((decide ((0 : Int) ≤ p.1)) && (decide (p.1 < (p.2.length : Int)))) then (p.2[p.1.toNat]?).bind fun x1 => (bif (decide ((x1.size : Int) > (120 : Int))) then some false else rec0 ((IntKind.i64.wrap (p.1 + (1 : Int))), p.2)) else none) else some true)
def spec_l13Texts.l0 (k : Nat) : Nat → (Int × (List (ByteArray))) → Option (Bool)
  | 0 => fun _ => none
  | j + 1 => spec_l13Texts.s0 k (spec_l13Texts.l0 k j)
def spec_l13Texts.S0 (p : (Int × (List (ByteArray)))) : DS := ⟨tl [(0, .at (.whole 0)), (3, .at (.int .i64 p.1))], lookO [(0, .row 9 .str false p.2)]⟩
noncomputable def spec_l13Texts.D0 (k : Nat) (j : Nat) (p : (Int × (List (ByteArray)))) : Option (Bool) := loopK (normK [0] (spec_l13Texts.h 0)) (runK spec_l13Texts.x k 0 [0] spec_l13Texts.h 0 (sub spec_l13Texts.c [1, 0, 1, 0, 0])) j (spec_l13Texts.S0 p) (kBlk 0 (kSeq (runK spec_l13Texts.x k 0 [0] spec_l13Texts.h 0 (sub spec_l13Texts.c [1, 1])) (fin tt spec_l13Texts.ps spec_l13Texts.rs spec_l13Texts.vs .bool)))
theorem spec_l13Texts.D0_eq (k : Nat) : ∀ j, spec_l13Texts.D0 k j = spec_l13Texts.l0 k j := by
  intro j
  induction j with
  | zero => rfl
  | succ j ih =>
    show _ = spec_l13Texts.s0 k (spec_l13Texts.l0 k j)
    rw [← ih]
    funext p
    kernel_rfl
def spec_l13Texts.f (k : Nat) (a0 : List (ByteArray)) : Option (Bool) :=
  spec_l13Texts.l0 k k ((0 : Int), a0)
def spec_l13Texts.K : Ctr := ⟨spec_l13Texts.ps, spec_l13Texts.rs, false, (.sl 9 .str), .bool, fun k x => spec_l13Texts.f k x⟩
theorem spec_l13Texts.eq (k : Nat) (x : (spec_l13Texts.K.I).den) : func spec_l13Texts.x spec_l13Texts.h spec_l13Texts.ps spec_l13Texts.rs spec_l13Texts.vs spec_l13Texts.K.I spec_l13Texts.K.O spec_l13Texts.c k x = spec_l13Texts.K.run k x := by
  show _ = spec_l13Texts.f k x
  unfold spec_l13Texts.f
  rw [← spec_l13Texts.D0_eq k k]
  kernel_rfl
theorem spec_l13Texts.ok : CtrOk Try.prog 68 spec_l13Texts.K :=
  CtrOk.of (fn := Try.f68) (cd := spec_l13Texts.c) (cx := spec_l13Texts.x) (hs := spec_l13Texts.h) (by kernel_rfl) (by kernel_rfl) (by kernel_rfl) (by kernel_rfl) tt_ok (envOk_nil) (by kernel_rfl) (by kernel_rfl) (by kernel_rfl) (by kernel_rfl) fun k x r h => (spec_l13Texts.eq k x).trans h
/-! spec.l13Sent -/
noncomputable def spec_l13Sent.c : Code := bodyOf Try.f69
def spec_l13Sent.h : Nat → Hint := look ⟨[], [], []⟩ [(0, ⟨[1, 3], [16], []⟩)]
def spec_l13Sent.ps : List PK := [.agg 9]
def spec_l13Sent.rs : List RK := [.one true]
def spec_l13Sent.vs : List ResultVar := [.tmp 2]
def spec_l13Sent.x : Cx := ⟨tt, look none [(52, some spec_l01In.K)]⟩
def spec_l13Sent.s0 (k : Nat) (rec0 : (Int × (List (ByteArray)) × (List (Int × ByteArray × Int × Int)) × (List (Int × ByteArray)) × (List (Int)) × (List (ByteArray)) × Int × Int × Int × Int) → Option (Bool)) (p : (Int × (List (ByteArray)) × (List (Int × ByteArray × Int × Int)) × (List (Int × ByteArray)) × (List (Int)) × (List (ByteArray)) × Int × Int × Int × Int)) : Option (Bool) :=
  (bif (decide (p.1 < (p.2.2.1.length : Int))) then (bif ((decide ((0 : Int) ≤ p.1)) && (decide (p.1 < (p.2.2.1.length : Int)))) then (p.2.2.1[p.1.toNat]?).bind fun x1 => (spec_l01In.f k x1.1 (1 : Int) p.2.2.2.2.2.2.2.2.1).bind fun r2 => (bif (!r2) then some false else (bif (decide (p.1 > (0 : Int))) then (bif ((decide ((0 : Int) ≤ (IntKind.i64.wrap (p.1 - (1 : Int))))) && (decide ((IntKind.i64.wrap (p.1 - (1 : Int))) < (p.2.2.1.length : Int)))) then (p.2.2.1[(IntKind.i64.wrap (p.1 - (1 : Int))).toNat]?).bind fun x3 => (bif (decide (x3.1 ≥ x1.1)) then some false else (spec_l01In.f k x1.2.2.1 (0 : Int) (1000000000 : Int)).bind fun r4 => (bif (!r4) then some false else (spec_l01In.f k x1.2.2.2 (1 : Int) (8 : Int)).bind fun r5 => (bif (!r5) then some false else (bif (decide ((x1.2.1.size : Int) > (120 : Int))) then some false else rec0 ((IntKind.i64.wrap (p.1 + (1 : Int))), p.2.1, p.2.2.1, p.2.2.2.1, p.2.2.2.2.1, p.2.2.2.2.2.1, p.2.2.2.2.2.2.1, p.2.2.2.2.2.2.2.1, p.2.2.2.2.2.2.2.2.1, p.2.2.2.2.2.2.2.2.2))))) else none) else (spec_l01In.f k x1.2.2.1 (0 : Int) (1000000000 : Int)).bind fun r6 => (bif (!r6) then some false else (spec_l01In.f k x1.2.2.2 (1 : Int) (8 : Int)).bind fun r7 => (bif (!r7) then some false else (bif (decide ((x1.2.1.size : Int) > (120 : Int))) then some false else rec0 ((IntKind.i64.wrap (p.1 + (1 : Int))), p.2.1, p.2.2.1, p.2.2.2.1, p.2.2.2.2.1, p.2.2.2.2.2.1, p.2.2.2.2.2.2.1, p.2.2.2.2.2.2.2.1, p.2.2.2.2.2.2.2.2.1, p.2.2.2.2.2.2.2.2.2)))))) else none) else some (decide ((p.2.2.1.length : Int) ≤ (4 : Int))))
def spec_l13Sent.l0 (k : Nat) : Nat → (Int × (List (ByteArray)) × (List (Int × ByteArray × Int × Int)) × (List (Int × ByteArray)) × (List (Int)) × (List (ByteArray)) × Int × Int × Int × Int) → Option (Bool)
  | 0 => fun _ => none
  | j + 1 => spec_l13Sent.s0 k (spec_l13Sent.l0 k j)
def spec_l13Sent.S0 (p : (Int × (List (ByteArray)) × (List (Int × ByteArray × Int × Int)) × (List (Int × ByteArray)) × (List (Int)) × (List (ByteArray)) × Int × Int × Int × Int)) : DS := ⟨tl [(1, .at (.bptr 16 0)), (3, .at (.int .i64 p.1))], lookO [(3, .row 9 .str false p.2.1), (4, .row 92 (.two (.int .i64) (.two .str (.two (.int .i64) (.int .i64)))) false p.2.2.1), (6, .row 87 (.two (.int .i64) .str) false p.2.2.2.1), (7, .row 3 (.int .i64) false p.2.2.2.2.1), (8, .row 9 .str false p.2.2.2.2.2.1), (16, .box 36 [.int .i64 p.2.2.2.2.2.2.1, .int .i64 p.2.2.2.2.2.2.2.1, .int .i64 p.2.2.2.2.2.2.2.2.1, .whole 3, .whole 4, .int .i64 p.2.2.2.2.2.2.2.2.2, .whole 6, .whole 7, .whole 8])]⟩
noncomputable def spec_l13Sent.D0 (k : Nat) (j : Nat) (p : (Int × (List (ByteArray)) × (List (Int × ByteArray × Int × Int)) × (List (Int × ByteArray)) × (List (Int)) × (List (ByteArray)) × Int × Int × Int × Int)) : Option (Bool) := loopK (normK [3, 4, 6, 7, 8] (spec_l13Sent.h 0)) (runK spec_l13Sent.x k 0 [3, 4, 6, 7, 8] spec_l13Sent.h 0 (sub spec_l13Sent.c [1, 0, 1, 0, 0])) j (spec_l13Sent.S0 p) (kBlk 0 (kSeq (runK spec_l13Sent.x k 0 [3, 4, 6, 7, 8] spec_l13Sent.h 0 (sub spec_l13Sent.c [1, 1])) (fin tt spec_l13Sent.ps spec_l13Sent.rs spec_l13Sent.vs .bool)))
theorem spec_l13Sent.D0_eq (k : Nat) : ∀ j, spec_l13Sent.D0 k j = spec_l13Sent.l0 k j := by
  intro j
  induction j with
  | zero => rfl
  | succ j ih =>
    show _ = spec_l13Sent.s0 k (spec_l13Sent.l0 k j)
    rw [← ih]
    funext p
    kernel_rfl
def spec_l13Sent.f (k : Nat) (a0_0 : Int) (a0_1 : Int) (a0_2 : Int) (a0_3 : List (ByteArray)) (a0_4 : List (Int × ByteArray × Int × Int)) (a0_5 : Int) (a0_6 : List (Int × ByteArray)) (a0_7 : List (Int)) (a0_8 : List (ByteArray)) : Option (Bool) :=
  spec_l13Sent.l0 k k ((0 : Int), a0_3, a0_4, a0_6, a0_7, a0_8, a0_0, a0_1, a0_2, a0_5)
def spec_l13Sent.K : Ctr := ⟨spec_l13Sent.ps, spec_l13Sent.rs, false, (.two (.int .i64) (.two (.int .i64) (.two (.int .i64) (.two (.sl 9 .str) (.two (.sl 92 (.two (.int .i64) (.two .str (.two (.int .i64) (.int .i64))))) (.two (.int .i64) (.two (.sl 87 (.two (.int .i64) .str)) (.two (.sl 3 (.int .i64)) (.sl 9 .str))))))))), .bool, fun k x => spec_l13Sent.f k x.1 x.2.1 x.2.2.1 x.2.2.2.1 x.2.2.2.2.1 x.2.2.2.2.2.1 x.2.2.2.2.2.2.1 x.2.2.2.2.2.2.2.1 x.2.2.2.2.2.2.2.2⟩
theorem spec_l13Sent.eq (k : Nat) (x : (spec_l13Sent.K.I).den) : func spec_l13Sent.x spec_l13Sent.h spec_l13Sent.ps spec_l13Sent.rs spec_l13Sent.vs spec_l13Sent.K.I spec_l13Sent.K.O spec_l13Sent.c k x = spec_l13Sent.K.run k x := by
  show _ = spec_l13Sent.f k x.1 x.2.1 x.2.2.1 x.2.2.2.1 x.2.2.2.2.1 x.2.2.2.2.2.1 x.2.2.2.2.2.2.1 x.2.2.2.2.2.2.2.1 x.2.2.2.2.2.2.2.2
  unfold spec_l13Sent.f
  rw [← spec_l13Sent.D0_eq k k]
  kernel_rfl
theorem spec_l13Sent.ok : CtrOk Try.prog 69 spec_l13Sent.K :=
  CtrOk.of (fn := Try.f69) (cd := spec_l13Sent.c) (cx := spec_l13Sent.x) (hs := spec_l13Sent.h) (by kernel_rfl) (by kernel_rfl) (by kernel_rfl) (by kernel_rfl) tt_ok (envOk_cons spec_l01In.ok (envOk_nil)) (by kernel_rfl) (by kernel_rfl) (by kernel_rfl) (by kernel_rfl) fun k x r h => (spec_l13Sent.eq k x).trans h
/-! spec.ChanOk -/
noncomputable def spec_ChanOk.c : Code := bodyOf Try.f22
def spec_ChanOk.h : Nat → Hint := look ⟨[], [], []⟩ [(0, ⟨[1, 3], [16], []⟩), (2, ⟨[1, 4], [16], []⟩)]
def spec_ChanOk.ps : List PK := [.agg 9]
def spec_ChanOk.rs : List RK := [.one true]
def spec_ChanOk.vs : List ResultVar := [.tmp 2]
def spec_ChanOk.x : Cx := ⟨tt, look none [(52, some spec_l01In.K), (68, some spec_l13Texts.K), (69, some spec_l13Sent.K)]⟩
def spec_ChanOk.s2 (k : Nat) (rec2 : (Int × (List (ByteArray)) × (List (Int × ByteArray × Int × Int)) × (List (Int × ByteArray)) × (List (Int)) × (List (ByteArray)) × Int × Int × Int × Int) → Option (Bool)) (p : (Int × (List (ByteArray)) × (List (Int × ByteArray × Int × Int)) × (List (Int × ByteArray)) × (List (Int)) × (List (ByteArray)) × Int × Int × Int × Int)) : Option (Bool) :=
  (bif (decide (p.1 < (p.2.2.2.2.1.length : Int))) then (bif ((decide ((0 : Int) ≤ p.1)) && (decide (p.1 < (p.2.2.2.2.1.length : Int)))) then (p.2.2.2.2.1[p.1.toNat]?).bind fun x14 => (spec_l01In.f k x14 (1 : Int) (IntKind.i64.wrap (p.2.2.2.2.2.2.2.2.2 + (4 : Int)))).bind fun r15 => (bif (!r15) then some false else rec2 ((IntKind.i64.wrap (p.1 + (1 : Int))), p.2.1, p.2.2.1, p.2.2.2.1, p.2.2.2.2.1, p.2.2.2.2.2.1, p.2.2.2.2.2.2.1, p.2.2.2.2.2.2.2.1, p.2.2.2.2.2.2.2.2.1, p.2.2.2.2.2.2.2.2.2)) else none) else some true)
def spec_ChanOk.l2 (k : Nat) : Nat → (Int × (List (ByteArray)) × (List (Int × ByteArray × Int × Int)) × (List (Int × ByteArray)) × (List (Int)) × (List (ByteArray)) × Int × Int × Int × Int) → Option (Bool)
  | 0 => fun _ => none
  | j + 1 => spec_ChanOk.s2 k (spec_ChanOk.l2 k j)
def spec_ChanOk.s0 (k : Nat) (rec0 : (Int × (List (ByteArray)) × (List (Int × ByteArray × Int × Int)) × (List (Int × ByteArray)) × (List (Int)) × (List (ByteArray)) × Int × Int × Int × Int) → Option (Bool)) (i2 : (Int × (List (ByteArray)) × (List (Int × ByteArray × Int × Int)) × (List (Int × ByteArray)) × (List (Int)) × (List (ByteArray)) × Int × Int × Int × Int) → Option (Bool)) (p : (Int × (List (ByteArray)) × (List (Int × ByteArray × Int × Int)) × (List (Int × ByteArray)) × (List (Int)) × (List (ByteArray)) × Int × Int × Int × Int)) : Option (Bool) :=
  (bif (decide (p.1 < (p.2.2.2.1.length : Int))) then (bif ((decide ((0 : Int) ≤ p.1)) && (decide (p.1 < (p.2.2.2.1.length : Int)))) then (p.2.2.2.1[p.1.toNat]?).bind fun x8 => (spec_l01In.f k x8.1 (IntKind.i64.wrap (p.2.2.2.2.2.2.2.2.2 + (2 : Int))) (IntKind.i64.wrap (p.2.2.2.2.2.2.2.2.2 + (4 : Int)))).bind fun r9 => (bif (!r9) then some false else (bif (decide (p.1 > (0 : Int))) then (bif ((decide ((0 : Int) ≤ (IntKind.i64.wrap (p.1 - (1 : Int))))) && (decide ((IntKind.i64.wrap (p.1 - (1 : Int))) < (p.2.2.2.1.length : Int)))) then (p.2.2.2.1[(IntKind.i64.wrap (p.1 - (1 : Int))).toNat]?).bind fun x10 => (bif ((decide ((0 : Int) ≤ p.1)) && (decide (p.1 < (p.2.2.2.1.length : Int)))) then (p.2.2.2.1[p.1.toNat]?).bind fun x11 => (bif (decide (x10.1 ≥ x11.1)) then some false else (bif ((decide ((0 : Int) ≤ p.1)) && (decide (p.1 < (p.2.2.2.1.length : Int)))) then (p.2.2.2.1[p.1.toNat]?).bind fun x12 => (bif (decide ((x12.2.size : Int) > (120 : Int))) then some false else rec0 ((IntKind.i64.wrap (p.1 + (1 : Int))), p.2.1, p.2.2.1, p.2.2.2.1, p.2.2.2.2.1, p.2.2.2.2.2.1, p.2.2.2.2.2.2.1, p.2.2.2.2.2.2.2.1, p.2.2.2.2.2.2.2.2.1, p.2.2.2.2.2.2.2.2.2)) else none)) else none) else none) else (bif ((decide ((0 : Int) ≤ p.1)) && (decide (p.1 < (p.2.2.2.1.length : Int)))) then (p.2.2.2.1[p.1.toNat]?).bind fun x13 => (bif (decide ((x13.2.size : Int) > (120 : Int))) then some false else rec0 ((IntKind.i64.wrap (p.1 + (1 : Int))), p.2.1, p.2.2.1, p.2.2.2.1, p.2.2.2.2.1, p.2.2.2.2.2.1, p.2.2.2.2.2.2.1, p.2.2.2.2.2.2.2.1, p.2.2.2.2.2.2.2.2.1, p.2.2.2.2.2.2.2.2.2)) else none))) else none) else i2 ((0 : Int), p.2.1, p.2.2.1, p.2.2.2.1, p.2.2.2.2.1, p.2.2.2.2.2.1, p.2.2.2.2.2.2.1, p.2.2.2.2.2.2.2.1, p.2.2.2.2.2.2.2.2.1, p.2.2.2.2.2.2.2.2.2))
def spec_ChanOk.l0 (k : Nat) : Nat → (Int × (List (ByteArray)) × (List (Int × ByteArray × Int × Int)) × (List (Int × ByteArray)) × (List (Int)) × (List (ByteArray)) × Int × Int × Int × Int) → Option (Bool)
  | 0 => fun _ => none
  | j + 1 => spec_ChanOk.s0 k (spec_ChanOk.l0 k j) (spec_ChanOk.l2 k k)
def spec_ChanOk.S2 (p : (Int × (List (ByteArray)) × (List (Int × ByteArray × Int × Int)) × (List (Int × ByteArray)) × (List (Int)) × (List (ByteArray)) × Int × Int × Int × Int)) : DS := ⟨tl [(1, .at (.bptr 16 0)), (4, .at (.int .i64 p.1))], lookO [(3, .row 9 .str false p.2.1), (4, .row 92 (.two (.int .i64) (.two .str (.two (.int .i64) (.int .i64)))) false p.2.2.1), (6, .row 87 (.two (.int .i64) .str) false p.2.2.2.1), (7, .row 3 (.int .i64) false p.2.2.2.2.1), (8, .row 9 .str false p.2.2.2.2.2.1), (16, .box 36 [.int .i64 p.2.2.2.2.2.2.1, .int .i64 p.2.2.2.2.2.2.2.1, .int .i64 p.2.2.2.2.2.2.2.2.1, .whole 3, .whole 4, .int .i64 p.2.2.2.2.2.2.2.2.2, .whole 6, .whole 7, .whole 8])]⟩
def spec_ChanOk.S0 (p : (Int × (List (ByteArray)) × (List (Int × ByteArray × Int × Int)) × (List (Int × ByteArray)) × (List (Int)) × (List (ByteArray)) × Int × Int × Int × Int)) : DS := ⟨tl [(1, .at (.bptr 16 0)), (3, .at (.int .i64 p.1))], lookO [(3, .row 9 .str false p.2.1), (4, .row 92 (.two (.int .i64) (.two .str (.two (.int .i64) (.int .i64)))) false p.2.2.1), (6, .row 87 (.two (.int .i64) .str) false p.2.2.2.1), (7, .row 3 (.int .i64) false p.2.2.2.2.1), (8, .row 9 .str false p.2.2.2.2.2.1), (16, .box 36 [.int .i64 p.2.2.2.2.2.2.1, .int .i64 p.2.2.2.2.2.2.2.1, .int .i64 p.2.2.2.2.2.2.2.2.1, .whole 3, .whole 4, .int .i64 p.2.2.2.2.2.2.2.2.2, .whole 6, .whole 7, .whole 8])]⟩
noncomputable def spec_ChanOk.D2 (k : Nat) (j : Nat) (p : (Int × (List (ByteArray)) × (List (Int × ByteArray × Int × Int)) × (List (Int × ByteArray)) × (List (Int)) × (List (ByteArray)) × Int × Int × Int × Int)) : Option (Bool) := loopK (normK [3, 4, 6, 7, 8] (spec_ChanOk.h 2)) (runK spec_ChanOk.x k 0 [3, 4, 6, 7, 8] spec_ChanOk.h 2 (sub spec_ChanOk.c [1, 1, 1, 0, 1, 0, 0])) j (spec_ChanOk.S2 p) (kBlk 2 (kSeq (runK spec_ChanOk.x k 0 [3, 4, 6, 7, 8] spec_ChanOk.h 0 (sub spec_ChanOk.c [1, 1, 1, 1])) (fin tt spec_ChanOk.ps spec_ChanOk.rs spec_ChanOk.vs .bool)))
noncomputable def spec_ChanOk.D0 (k : Nat) (j : Nat) (p : (Int × (List (ByteArray)) × (List (Int × ByteArray × Int × Int)) × (List (Int × ByteArray)) × (List (Int)) × (List (ByteArray)) × Int × Int × Int × Int)) : Option (Bool) := loopK (normK [3, 4, 6, 7, 8] (spec_ChanOk.h 0)) (runK spec_ChanOk.x k 0 [3, 4, 6, 7, 8] spec_ChanOk.h 0 (sub spec_ChanOk.c [1, 1, 0, 1, 0, 0])) j (spec_ChanOk.S0 p) (kBlk 0 (kSeq (runK spec_ChanOk.x k 0 [3, 4, 6, 7, 8] spec_ChanOk.h 0 (sub spec_ChanOk.c [1, 1, 1])) (fin tt spec_ChanOk.ps spec_ChanOk.rs spec_ChanOk.vs .bool)))
theorem spec_ChanOk.D2_eq (k : Nat) : ∀ j, spec_ChanOk.D2 k j = spec_ChanOk.l2 k j := by
  intro j
  induction j with
  | zero => rfl
  | succ j ih =>
    show _ = spec_ChanOk.s2 k (spec_ChanOk.l2 k j)
    rw [← ih]
    funext p
    kernel_rfl
theorem spec_ChanOk.D0_eq (k : Nat) : ∀ j, spec_ChanOk.D0 k j = spec_ChanOk.l0 k j := by
  intro j
  induction j with
  | zero => rfl
  | succ j ih =>
    show _ = spec_ChanOk.s0 k (spec_ChanOk.l0 k j) (spec_ChanOk.l2 k k)
    rw [← ih, ← spec_ChanOk.D2_eq k k]
    funext p
    kernel_rfl
def spec_ChanOk.f (k : Nat) (a0_0 : Int) (a0_1 : Int) (a0_2 : Int) (a0_3 : List (ByteArray)) (a0_4 : List (Int × ByteArray × Int × Int)) (a0_5 : Int) (a0_6 : List (Int × ByteArray)) (a0_7 : List (Int)) (a0_8 : List (ByteArray)) : Option (Bool) :=
  (spec_l01In.f k a0_0 (1 : Int) (99 : Int)).bind fun r1 => (bif (!r1) then some false else (spec_l01In.f k a0_1 (1 : Int) (99 : Int)).bind fun r2 => (bif (!r2) then some false else (spec_l01In.f k a0_2 (0 : Int) (1000 : Int)).bind fun r3 => (bif (!r3) then some false else (bif (decide ((a0_3.length : Int) > (30 : Int))) then some false else (spec_l13Texts.f k a0_3).bind fun r4 => (bif (!r4) then some false else (spec_l13Sent.f k a0_0 a0_1 a0_2 a0_3 a0_4 a0_5 a0_6 a0_7 a0_8).bind fun r5 => (bif (!r5) then some false else (spec_l01In.f k a0_5 (0 : Int) (1000 : Int)).bind fun r6 => (bif (!r6) then some false else (bif ((a0_8.length : Int) != a0_5) then some false else (spec_l13Texts.f k a0_8).bind fun r7 => (bif (!r7) then some false else (bif (decide ((a0_7.length : Int) > (4 : Int))) then some false else spec_ChanOk.l0 k k ((0 : Int), a0_3, a0_4, a0_6, a0_7, a0_8, a0_0, a0_1, a0_2, a0_5)))))))))))
def spec_ChanOk.K : Ctr := ⟨spec_ChanOk.ps, spec_ChanOk.rs, false, (.two (.int .i64) (.two (.int .i64) (.two (.int .i64) (.two (.sl 9 .str) (.two (.sl 92 (.two (.int .i64) (.two .str (.two (.int .i64) (.int .i64))))) (.two (.int .i64) (.two (.sl 87 (.two (.int .i64) .str)) (.two (.sl 3 (.int .i64)) (.sl 9 .str))))))))), .bool, fun k x => spec_ChanOk.f k x.1 x.2.1 x.2.2.1 x.2.2.2.1 x.2.2.2.2.1 x.2.2.2.2.2.1 x.2.2.2.2.2.2.1 x.2.2.2.2.2.2.2.1 x.2.2.2.2.2.2.2.2⟩
theorem spec_ChanOk.eq (k : Nat) (x : (spec_ChanOk.K.I).den) : func spec_ChanOk.x spec_ChanOk.h spec_ChanOk.ps spec_ChanOk.rs spec_ChanOk.vs spec_ChanOk.K.I spec_ChanOk.K.O spec_ChanOk.c k x = spec_ChanOk.K.run k x := by
  show _ = spec_ChanOk.f k x.1 x.2.1 x.2.2.1 x.2.2.2.1 x.2.2.2.2.1 x.2.2.2.2.2.1 x.2.2.2.2.2.2.1 x.2.2.2.2.2.2.2.1 x.2.2.2.2.2.2.2.2
  unfold spec_ChanOk.f
  rw [← spec_ChanOk.D0_eq k k]
  kernel_rfl
theorem spec_ChanOk.ok : CtrOk Try.prog 22 spec_ChanOk.K :=
  CtrOk.of (fn := Try.f22) (cd := spec_ChanOk.c) (cx := spec_ChanOk.x) (hs := spec_ChanOk.h) (by kernel_rfl) (by kernel_rfl) (by kernel_rfl) (by kernel_rfl) tt_ok (envOk_cons spec_l01In.ok (envOk_cons spec_l13Texts.ok (envOk_cons spec_l13Sent.ok (envOk_nil)))) (by kernel_rfl) (by kernel_rfl) (by kernel_rfl) (by kernel_rfl) fun k x r h => (spec_ChanOk.eq k x).trans h
/-! spec.l13Power -/
noncomputable def spec_l13Power.c : Code := bodyOf Try.f77
def spec_l13Power.h : Nat → Hint := look ⟨[], [], []⟩ [(0, ⟨[0, 3, 4], [], []⟩)]
def spec_l13Power.ps : List PK := [.one]
def spec_l13Power.rs : List RK := [.one true]
def spec_l13Power.vs : List ResultVar := [.tmp 2]
def spec_l13Power.x : Cx := ⟨tt, look none []⟩
def spec_l13Power.s0 (_k : Nat) (rec0 : (Int × Int × Int) → Option (Int)) (p : (Int × Int × Int)) : Option (Int) :=
  (bif (decide (p.2.2 < p.1)) then rec0 (p.1, (IntKind.i64.wrap ((2 : Int) * p.2.1)), (IntKind.i64.wrap (p.2.2 + (1 : Int)))) else some p.2.1)
def spec_l13Power.l0 (k : Nat) : Nat → (Int × Int × Int) → Option (Int)
  | 0 => fun _ => none
  | j + 1 => spec_l13Power.s0 k (spec_l13Power.l0 k j)
def spec_l13Power.S0 (p : (Int × Int × Int)) : DS := ⟨tl [(0, .at (.int .i64 p.1)), (3, .at (.int .i64 p.2.1)), (4, .at (.int .i64 p.2.2))], lookO []⟩
noncomputable def spec_l13Power.D0 (k : Nat) (j : Nat) (p : (Int × Int × Int)) : Option (Int) := loopK (normK [] (spec_l13Power.h 0)) (runK spec_l13Power.x k 0 [] spec_l13Power.h 0 (sub spec_l13Power.c [1, 1, 0, 1, 0, 0])) j (spec_l13Power.S0 p) (kBlk 0 (kSeq (runK spec_l13Power.x k 0 [] spec_l13Power.h 0 (sub spec_l13Power.c [1, 1, 1])) (fin tt spec_l13Power.ps spec_l13Power.rs spec_l13Power.vs (.int .i64))))
theorem spec_l13Power.D0_eq (k : Nat) : ∀ j, spec_l13Power.D0 k j = spec_l13Power.l0 k j := by
  intro j
  induction j with
  | zero => rfl
  | succ j ih =>
    show _ = spec_l13Power.s0 k (spec_l13Power.l0 k j)
    rw [← ih]
    funext p
    kernel_rfl
def spec_l13Power.f (k : Nat) (a0 : Int) : Option (Int) :=
  spec_l13Power.l0 k k (a0, (1 : Int), (0 : Int))
def spec_l13Power.K : Ctr := ⟨spec_l13Power.ps, spec_l13Power.rs, false, (.int .i64), (.int .i64), fun k x => spec_l13Power.f k x⟩
theorem spec_l13Power.eq (k : Nat) (x : (spec_l13Power.K.I).den) : func spec_l13Power.x spec_l13Power.h spec_l13Power.ps spec_l13Power.rs spec_l13Power.vs spec_l13Power.K.I spec_l13Power.K.O spec_l13Power.c k x = spec_l13Power.K.run k x := by
  show _ = spec_l13Power.f k x
  unfold spec_l13Power.f
  rw [← spec_l13Power.D0_eq k k]
  kernel_rfl
theorem spec_l13Power.ok : CtrOk Try.prog 77 spec_l13Power.K :=
  CtrOk.of (fn := Try.f77) (cd := spec_l13Power.c) (cx := spec_l13Power.x) (hs := spec_l13Power.h) (by kernel_rfl) (by kernel_rfl) (by kernel_rfl) (by kernel_rfl) tt_ok (envOk_nil) (by kernel_rfl) (by kernel_rfl) (by kernel_rfl) (by kernel_rfl) fun k x r h => (spec_l13Power.eq k x).trans h
end Go.Proofs.Ytpheniajdbbphaa.DI
