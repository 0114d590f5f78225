/- FnExactPush: functions as plain Lean, in the machine of values. -/
import Derived.Test.YtpheniajdbbphaaVFnExactPush2
namespace Go.Proofs.Ytpheniajdbbphaa.DI
open Go
set_option linter.unusedVariables false
/-! impl.ChanOk -/
noncomputable def impl_ChanOk.c : Code := bodyOf Try.f24
def impl_ChanOk.h : Nat → Hint := look ⟨[], [], []⟩ [(0, ⟨[1, 11, 12, 13], [16], []⟩), (2, ⟨[1, 60, 61, 62], [16], []⟩), (4, ⟨[1, 101, 102, 103], [16], []⟩)]
def impl_ChanOk.ps : List PK := [.agg 9]
def impl_ChanOk.rs : List RK := [.one true]
def impl_ChanOk.vs : List ResultVar := [.tmp 2]
def impl_ChanOk.x : Cx := ⟨tt, look none [(73, some impl_within.K), (53, some impl_isId.K), (74, some impl_textsOk.K)]⟩
def impl_ChanOk.s4 (k : Nat) (rec4 : (Int × Int × (List (ByteArray)) × (List (Int × ByteArray × Int × Int)) × (List (Int × ByteArray)) × (List (Int)) × (List (ByteArray)) × Int × Int × Int × Int) → Option (Bool)) (p : (Int × Int × (List (ByteArray)) × (List (Int × ByteArray × Int × Int)) × (List (Int × ByteArray)) × (List (Int)) × (List (ByteArray)) × Int × Int × Int × Int)) : Option (Bool) :=
  (bif (decide (p.2.1 < p.1)) then (bif ((decide ((0 : Int) ≤ p.2.1)) && (decide (p.2.1 < (p.2.2.2.2.2.1.length : Int)))) then (p.2.2.2.2.2.1[p.2.1.toNat]?).bind fun x13 => (impl_within.f k x13 (1 : Int) (IntKind.i64.wrap (p.2.2.2.2.2.2.2.2.2.2 + (4 : Int)))).bind fun r14 => (bif (!r14) then some false else rec4 (p.1, (IntKind.i64.wrap (p.2.1 + (1 : Int))), p.2.2.1, p.2.2.2.1, p.2.2.2.2.1, p.2.2.2.2.2.1, p.2.2.2.2.2.2.1, p.2.2.2.2.2.2.2.1, p.2.2.2.2.2.2.2.2.1, p.2.2.2.2.2.2.2.2.2.1, p.2.2.2.2.2.2.2.2.2.2)) else none) else (impl_isId.f k p.2.2.2.2.2.2.2.1).bind fun r15 => (bif r15 then (impl_isId.f k p.2.2.2.2.2.2.2.2.1).bind fun r16 => (bif r16 then (impl_within.f k p.2.2.2.2.2.2.2.2.2.1 (0 : Int) (1000 : Int)).bind fun r17 => (bif r17 then (impl_within.f k p.2.2.2.2.2.2.2.2.2.2 (0 : Int) (1000 : Int)).bind fun r18 => (bif r18 then (bif ((p.2.2.2.2.2.2.1.length : Int) == p.2.2.2.2.2.2.2.2.2.2) then (bif (decide ((p.2.2.1.length : Int) ≤ (30 : Int))) then (impl_textsOk.f k [p.2.2.1, p.2.2.2.2.2.2.1]).bind fun r19 => (bif r19 then (bif (decide ((p.2.2.2.1.length : Int) ≤ (4 : Int))) then some (decide ((p.2.2.2.2.2.1.length : Int) ≤ (4 : Int))) else some false) else some false) else some false) else some false) else some false) else some false) else some false) else some false))
def impl_ChanOk.l4 (k : Nat) : Nat → (Int × Int × (List (ByteArray)) × (List (Int × ByteArray × Int × Int)) × (List (Int × ByteArray)) × (List (Int)) × (List (ByteArray)) × Int × Int × Int × Int) → Option (Bool)
  | 0 => fun _ => none
  | j + 1 => impl_ChanOk.s4 k (impl_ChanOk.l4 k j)
def impl_ChanOk.s2 (k : Nat) (rec2 : (Int × Int × (List (ByteArray)) × (List (Int × ByteArray × Int × Int)) × (List (Int × ByteArray)) × (List (Int)) × (List (ByteArray)) × Int × Int × Int × Int) → Option (Bool)) (i4 : (Int × Int × (List (ByteArray)) × (List (Int × ByteArray × Int × Int)) × (List (Int × ByteArray)) × (List (Int)) × (List (ByteArray)) × Int × Int × Int × Int) → Option (Bool)) (p : (Int × Int × (List (ByteArray)) × (List (Int × ByteArray × Int × Int)) × (List (Int × ByteArray)) × (List (Int)) × (List (ByteArray)) × Int × Int × Int × Int)) : Option (Bool) :=
  (bif (decide (p.2.1 < p.1)) then (bif ((decide ((0 : Int) ≤ p.2.1)) && (decide (p.2.1 < (p.2.2.2.2.1.length : Int)))) then (p.2.2.2.2.1[p.2.1.toNat]?).bind fun x9 => (bif (decide (p.2.1 > (0 : Int))) then (bif ((decide ((0 : Int) ≤ (IntKind.i64.wrap (p.2.1 - (1 : Int))))) && (decide ((IntKind.i64.wrap (p.2.1 - (1 : Int))) < (p.2.2.2.2.1.length : Int)))) then (p.2.2.2.2.1[(IntKind.i64.wrap (p.2.1 - (1 : Int))).toNat]?).bind fun x10 => (bif (decide (x10.1 ≥ x9.1)) then some false else (impl_within.f k x9.1 (IntKind.i64.wrap (p.2.2.2.2.2.2.2.2.2.2 + (2 : Int))) (IntKind.i64.wrap (p.2.2.2.2.2.2.2.2.2.2 + (4 : Int)))).bind fun r11 => (bif (!r11) then some false else (bif (decide ((x9.2.size : Int) > (120 : Int))) then some false else rec2 (p.1, (IntKind.i64.wrap (p.2.1 + (1 : Int))), p.2.2.1, p.2.2.2.1, p.2.2.2.2.1, p.2.2.2.2.2.1, p.2.2.2.2.2.2.1, p.2.2.2.2.2.2.2.1, p.2.2.2.2.2.2.2.2.1, p.2.2.2.2.2.2.2.2.2.1, p.2.2.2.2.2.2.2.2.2.2)))) else none) else (impl_within.f k x9.1 (IntKind.i64.wrap (p.2.2.2.2.2.2.2.2.2.2 + (2 : Int))) (IntKind.i64.wrap (p.2.2.2.2.2.2.2.2.2.2 + (4 : Int)))).bind fun r12 => (bif (!r12) then some false else (bif (decide ((x9.2.size : Int) > (120 : Int))) then some false else rec2 (p.1, (IntKind.i64.wrap (p.2.1 + (1 : Int))), p.2.2.1, p.2.2.2.1, p.2.2.2.2.1, p.2.2.2.2.2.1, p.2.2.2.2.2.2.1, p.2.2.2.2.2.2.2.1, p.2.2.2.2.2.2.2.2.1, p.2.2.2.2.2.2.2.2.2.1, p.2.2.2.2.2.2.2.2.2.2)))) else none) else i4 ((p.2.2.2.2.2.1.length : Int), (0 : Int), p.2.2.1, p.2.2.2.1, p.2.2.2.2.1, p.2.2.2.2.2.1, p.2.2.2.2.2.2.1, p.2.2.2.2.2.2.2.1, p.2.2.2.2.2.2.2.2.1, p.2.2.2.2.2.2.2.2.2.1, p.2.2.2.2.2.2.2.2.2.2))
def impl_ChanOk.l2 (k : Nat) : Nat → (Int × Int × (List (ByteArray)) × (List (Int × ByteArray × Int × Int)) × (List (Int × ByteArray)) × (List (Int)) × (List (ByteArray)) × Int × Int × Int × Int) → Option (Bool)
  | 0 => fun _ => none
  | j + 1 => impl_ChanOk.s2 k (impl_ChanOk.l2 k j) (impl_ChanOk.l4 k k)
def impl_ChanOk.s0 (k : Nat) (rec0 : (Int × Int × (List (ByteArray)) × (List (Int × ByteArray × Int × Int)) × (List (Int × ByteArray)) × (List (Int)) × (List (ByteArray)) × Int × Int × Int × Int) → Option (Bool)) (i2 : (Int × Int × (List (ByteArray)) × (List (Int × ByteArray × Int × Int)) × (List (Int × ByteArray)) × (List (Int)) × (List (ByteArray)) × Int × Int × Int × Int) → Option (Bool)) (p : (Int × Int × (List (ByteArray)) × (List (Int × ByteArray × Int × Int)) × (List (Int × ByteArray)) × (List (Int)) × (List (ByteArray)) × Int × Int × Int × Int)) : Option (Bool) :=
  (bif (decide (p.2.1 < p.1)) then (bif ((decide ((0 : Int) ≤ p.2.1)) && (decide (p.2.1 < (p.2.2.2.1.length : Int)))) then (p.2.2.2.1[p.2.1.toNat]?).bind fun x1 => (bif (decide (p.2.1 > (0 : Int))) then (bif ((decide ((0 : Int) ≤ (IntKind.i64.wrap (p.2.1 - (1 : Int))))) && (decide ((IntKind.i64.wrap (p.2.1 - (1 : Int))) < (p.2.2.2.1.length : Int)))) then (p.2.2.2.1[(IntKind.i64.wrap (p.2.1 - (1 : Int))).toNat]?).bind fun x2 => (bif (decide (x2.1 ≥ x1.1)) then some false else (impl_within.f k x1.1 (1 : Int) p.2.2.2.2.2.2.2.2.2.1).bind fun r3 => (bif (!r3) then some false else (impl_within.f k x1.2.2.1 (0 : Int) (1000000000 : Int)).bind fun r4 => (bif (!r4) then some false else (impl_within.f k x1.2.2.2 (1 : Int) (8 : Int)).bind fun r5 => (bif (!r5) then some false else (bif (decide ((x1.2.1.size : Int) > (120 : Int))) then some false else rec0 (p.1, (IntKind.i64.wrap (p.2.1 + (1 : Int))), p.2.2.1, p.2.2.2.1, p.2.2.2.2.1, p.2.2.2.2.2.1, p.2.2.2.2.2.2.1, p.2.2.2.2.2.2.2.1, p.2.2.2.2.2.2.2.2.1, p.2.2.2.2.2.2.2.2.2.1, p.2.2.2.2.2.2.2.2.2.2)))))) else none) else (impl_within.f k x1.1 (1 : Int) p.2.2.2.2.2.2.2.2.2.1).bind fun r6 => (bif (!r6) then some false else (impl_within.f k x1.2.2.1 (0 : Int) (1000000000 : Int)).bind fun r7 => (bif (!r7) then some false else (impl_within.f k x1.2.2.2 (1 : Int) (8 : Int)).bind fun r8 => (bif (!r8) then some false else (bif (decide ((x1.2.1.size : Int) > (120 : Int))) then some false else rec0 (p.1, (IntKind.i64.wrap (p.2.1 + (1 : Int))), p.2.2.1, p.2.2.2.1, p.2.2.2.2.1, p.2.2.2.2.2.1, p.2.2.2.2.2.2.1, p.2.2.2.2.2.2.2.1, p.2.2.2.2.2.2.2.2.1, p.2.2.2.2.2.2.2.2.2.1, p.2.2.2.2.2.2.2.2.2.2)))))) else none) else i2 ((p.2.2.2.2.1.length : Int), (0 : Int), p.2.2.1, p.2.2.2.1, p.2.2.2.2.1, p.2.2.2.2.2.1, p.2.2.2.2.2.2.1, p.2.2.2.2.2.2.2.1, p.2.2.2.2.2.2.2.2.1, p.2.2.2.2.2.2.2.2.2.1, p.2.2.2.2.2.2.2.2.2.2))
def impl_ChanOk.l0 (k : Nat) : Nat → (Int × Int × (List (ByteArray)) × (List (Int × ByteArray × Int × Int)) × (List (Int × ByteArray)) × (List (Int)) × (List (ByteArray)) × Int × Int × Int × Int) → Option (Bool)
  | 0 => fun _ => none
  | j + 1 => impl_ChanOk.s0 k (impl_ChanOk.l0 k j) (impl_ChanOk.l2 k k)
def impl_ChanOk.S4 (p : (Int × Int × (List (ByteArray)) × (List (Int × ByteArray × Int × Int)) × (List (Int × ByteArray)) × (List (Int)) × (List (ByteArray)) × Int × Int × Int × Int)) : DS := ⟨tl [(1, .at (.bptr 16 0)), (101, .at (.whole 7)), (102, .at (.int .i64 p.1)), (103, .at (.int .i64 p.2.1))], lookO [(3, .row 9 .str false p.2.2.1), (4, .row 92 (.two (.int .i64) (.two .str (.two (.int .i64) (.int .i64)))) false p.2.2.2.1), (6, .row 87 (.two (.int .i64) .str) false p.2.2.2.2.1), (7, .row 3 (.int .i64) false p.2.2.2.2.2.1), (8, .row 9 .str false p.2.2.2.2.2.2.1), (16, .box 36 [.int .i64 p.2.2.2.2.2.2.2.1, .int .i64 p.2.2.2.2.2.2.2.2.1, .int .i64 p.2.2.2.2.2.2.2.2.2.1, .whole 3, .whole 4, .int .i64 p.2.2.2.2.2.2.2.2.2.2, .whole 6, .whole 7, .whole 8])]⟩
def impl_ChanOk.S2 (p : (Int × Int × (List (ByteArray)) × (List (Int × ByteArray × Int × Int)) × (List (Int × ByteArray)) × (List (Int)) × (List (ByteArray)) × Int × Int × Int × Int)) : DS := ⟨tl [(1, .at (.bptr 16 0)), (60, .at (.whole 6)), (61, .at (.int .i64 p.1)), (62, .at (.int .i64 p.2.1))], lookO [(3, .row 9 .str false p.2.2.1), (4, .row 92 (.two (.int .i64) (.two .str (.two (.int .i64) (.int .i64)))) false p.2.2.2.1), (6, .row 87 (.two (.int .i64) .str) false p.2.2.2.2.1), (7, .row 3 (.int .i64) false p.2.2.2.2.2.1), (8, .row 9 .str false p.2.2.2.2.2.2.1), (16, .box 36 [.int .i64 p.2.2.2.2.2.2.2.1, .int .i64 p.2.2.2.2.2.2.2.2.1, .int .i64 p.2.2.2.2.2.2.2.2.2.1, .whole 3, .whole 4, .int .i64 p.2.2.2.2.2.2.2.2.2.2, .whole 6, .whole 7, .whole 8])]⟩
def impl_ChanOk.S0 (p : (Int × Int × (List (ByteArray)) × (List (Int × ByteArray × Int × Int)) × (List (Int × ByteArray)) × (List (Int)) × (List (ByteArray)) × Int × Int × Int × Int)) : DS := ⟨tl [(1, .at (.bptr 16 0)), (11, .at (.whole 4)), (12, .at (.int .i64 p.1)), (13, .at (.int .i64 p.2.1))], lookO [(3, .row 9 .str false p.2.2.1), (4, .row 92 (.two (.int .i64) (.two .str (.two (.int .i64) (.int .i64)))) false p.2.2.2.1), (6, .row 87 (.two (.int .i64) .str) false p.2.2.2.2.1), (7, .row 3 (.int .i64) false p.2.2.2.2.2.1), (8, .row 9 .str false p.2.2.2.2.2.2.1), (16, .box 36 [.int .i64 p.2.2.2.2.2.2.2.1, .int .i64 p.2.2.2.2.2.2.2.2.1, .int .i64 p.2.2.2.2.2.2.2.2.2.1, .whole 3, .whole 4, .int .i64 p.2.2.2.2.2.2.2.2.2.2, .whole 6, .whole 7, .whole 8])]⟩
noncomputable def impl_ChanOk.D4 (k : Nat) (j : Nat) (p : (Int × Int × (List (ByteArray)) × (List (Int × ByteArray × Int × Int)) × (List (Int × ByteArray)) × (List (Int)) × (List (ByteArray)) × Int × Int × Int × Int)) : Option (Bool) := loopK (norm [3, 4, 6, 7, 8] (impl_ChanOk.h 4)) (runK impl_ChanOk.x k 0 [3, 4, 6, 7, 8] impl_ChanOk.h 4 (sub impl_ChanOk.c [1, 1, 1, 0, 1, 0, 0])) j (impl_ChanOk.S4 p) (kBlk 4 (kSeq (runK impl_ChanOk.x k 0 [3, 4, 6, 7, 8] impl_ChanOk.h 0 (sub impl_ChanOk.c [1, 1, 1, 1])) (fin tt impl_ChanOk.ps impl_ChanOk.rs impl_ChanOk.vs .bool)))
noncomputable def impl_ChanOk.D2 (k : Nat) (j : Nat) (p : (Int × Int × (List (ByteArray)) × (List (Int × ByteArray × Int × Int)) × (List (Int × ByteArray)) × (List (Int)) × (List (ByteArray)) × Int × Int × Int × Int)) : Option (Bool) := loopK (norm [3, 4, 6, 7, 8] (impl_ChanOk.h 2)) (runK impl_ChanOk.x k 0 [3, 4, 6, 7, 8] impl_ChanOk.h 2 (sub impl_ChanOk.c [1, 1, 0, 1, 0, 0])) j (impl_ChanOk.S2 p) (kBlk 2 (kSeq (runK impl_ChanOk.x k 0 [3, 4, 6, 7, 8] impl_ChanOk.h 0 (sub impl_ChanOk.c [1, 1, 1])) (fin tt impl_ChanOk.ps impl_ChanOk.rs impl_ChanOk.vs .bool)))
noncomputable def impl_ChanOk.D0 (k : Nat) (j : Nat) (p : (Int × Int × (List (ByteArray)) × (List (Int × ByteArray × Int × Int)) × (List (Int × ByteArray)) × (List (Int)) × (List (ByteArray)) × Int × Int × Int × Int)) : Option (Bool) := loopK (norm [3, 4, 6, 7, 8] (impl_ChanOk.h 0)) (runK impl_ChanOk.x k 0 [3, 4, 6, 7, 8] impl_ChanOk.h 0 (sub impl_ChanOk.c [1, 0, 1, 0, 0])) j (impl_ChanOk.S0 p) (kBlk 0 (kSeq (runK impl_ChanOk.x k 0 [3, 4, 6, 7, 8] impl_ChanOk.h 0 (sub impl_ChanOk.c [1, 1])) (fin tt impl_ChanOk.ps impl_ChanOk.rs impl_ChanOk.vs .bool)))
theorem impl_ChanOk.D4_eq (k : Nat) : ∀ j, impl_ChanOk.D4 k j = impl_ChanOk.l4 k j := by
  intro j
  induction j with
  | zero => rfl
  | succ j ih =>
    show _ = impl_ChanOk.s4 k (impl_ChanOk.l4 k j)
    rw [← ih]
    funext p
    kernel_rfl
theorem impl_ChanOk.D2_eq (k : Nat) : ∀ j, impl_ChanOk.D2 k j = impl_ChanOk.l2 k j := by
  intro j
  induction j with
  | zero => rfl
  | succ j ih =>
    show _ = impl_ChanOk.s2 k (impl_ChanOk.l2 k j) (impl_ChanOk.l4 k k)
    rw [← ih, ← impl_ChanOk.D4_eq k k]
    funext p
    kernel_rfl
theorem impl_ChanOk.D0_eq (k : Nat) : ∀ j, impl_ChanOk.D0 k j = impl_ChanOk.l0 k j := by
  intro j
  induction j with
  | zero => rfl
  | succ j ih =>
    show _ = impl_ChanOk.s0 k (impl_ChanOk.l0 k j) (impl_ChanOk.l2 k k)
    rw [← ih, ← impl_ChanOk.D2_eq k k]
    funext p
    kernel_rfl
def impl_ChanOk.f (k : Nat) (a0_0 : Int) (a0_1 : Int) (a0_2 : Int) (a0_3 : List (ByteArray)) (a0_4 : List (Int × ByteArray × Int × Int)) (a0_5 : Int) (a0_6 : List (Int × ByteArray)) (a0_7 : List (Int)) (a0_8 : List (ByteArray)) : Option (Bool) :=
  impl_ChanOk.l0 k k ((a0_4.length : Int), (0 : Int), a0_3, a0_4, a0_6, a0_7, a0_8, a0_0, a0_1, a0_2, a0_5)
def impl_ChanOk.K : Ctr := ⟨impl_ChanOk.ps, impl_ChanOk.rs, false, (.two (.int .i64) (.two (.int .i64) (.two (.int .i64) (.two (.sl 9 .str) (.two (.sl 92 (.two (.int .i64) (.two .str (.two (.int .i64) (.int .i64))))) (.two (.int .i64) (.two (.sl 87 (.two (.int .i64) .str)) (.two (.sl 3 (.int .i64)) (.sl 9 .str))))))))), .bool, fun k x => impl_ChanOk.f k x.1 x.2.1 x.2.2.1 x.2.2.2.1 x.2.2.2.2.1 x.2.2.2.2.2.1 x.2.2.2.2.2.2.1 x.2.2.2.2.2.2.2.1 x.2.2.2.2.2.2.2.2⟩
theorem impl_ChanOk.eq (k : Nat) (x : (impl_ChanOk.K.I).den) : func impl_ChanOk.x impl_ChanOk.h impl_ChanOk.ps impl_ChanOk.rs impl_ChanOk.vs impl_ChanOk.K.I impl_ChanOk.K.O impl_ChanOk.c k x = impl_ChanOk.K.run k x := by
  show _ = impl_ChanOk.f k x.1 x.2.1 x.2.2.1 x.2.2.2.1 x.2.2.2.2.1 x.2.2.2.2.2.1 x.2.2.2.2.2.2.1 x.2.2.2.2.2.2.2.1 x.2.2.2.2.2.2.2.2
  unfold impl_ChanOk.f
  rw [← impl_ChanOk.D0_eq k k]
  kernel_rfl
theorem impl_ChanOk.ok : CtrOk Try.prog 24 impl_ChanOk.K :=
  CtrOk.of (fn := Try.f24) (cd := impl_ChanOk.c) (cx := impl_ChanOk.x) (hs := impl_ChanOk.h) (by kernel_rfl) (by kernel_rfl) (by kernel_rfl) (by kernel_rfl) tt_ok (envOk_cons impl_within.ok (envOk_cons impl_isId.ok (envOk_cons impl_textsOk.ok (envOk_nil)))) (by kernel_rfl) (by kernel_rfl) (by kernel_rfl) (by kernel_rfl) fun k x r h => (impl_ChanOk.eq k x).trans h
/-! impl.Push -/
noncomputable def impl_Push.c : Code := bodyOf Try.f26
def impl_Push.h : Nat → Hint := look ⟨[], [], []⟩ []
def impl_Push.ps : List PK := [.agg 9, .one]
def impl_Push.rs : List RK := [.agg 9 true, .one true]
def impl_Push.vs : List ResultVar := [.cell 4 36, .tmp 5]
def impl_Push.x : Cx := ⟨tt, look none [(76, some impl_copyChan.K), (24, some impl_ChanOk.K)]⟩
def impl_Push.f (k : Nat) (a0_0 : Int) (a0_1 : Int) (a0_2 : Int) (a0_3 : List (ByteArray)) (a0_4 : List (Int × ByteArray × Int × Int)) (a0_5 : Int) (a0_6 : List (Int × ByteArray)) (a0_7 : List (Int)) (a0_8 : List (ByteArray)) (a1 : ByteArray) : Option (Int × Int × Int × (List (ByteArray)) × (List (Int × ByteArray × Int × Int)) × Int × (List (Int × ByteArray)) × (List (Int)) × (List (ByteArray)) × Bool) :=
  (impl_copyChan.f k a0_0 a0_1 a0_2 a0_3 a0_4 a0_5 a0_6 a0_7 a0_8).bind fun r1 => (impl_ChanOk.f k a0_0 a0_1 a0_2 a0_3 a0_4 a0_5 a0_6 a0_7 a0_8).bind fun r2 => (bif (!r2) then some (r1.1, r1.2.1, r1.2.2.1, r1.2.2.2.1, r1.2.2.2.2.1, r1.2.2.2.2.2.1, r1.2.2.2.2.2.2.1, r1.2.2.2.2.2.2.2.1, r1.2.2.2.2.2.2.2.2, false) else (bif (decide ((a1.size : Int) > (120 : Int))) then some (r1.1, r1.2.1, r1.2.2.1, r1.2.2.2.1, r1.2.2.2.2.1, r1.2.2.2.2.2.1, r1.2.2.2.2.2.2.1, r1.2.2.2.2.2.2.2.1, r1.2.2.2.2.2.2.2.2, false) else (bif ((a0_3.length : Int) == (30 : Int)) then some (r1.1, r1.2.1, r1.2.2.1, r1.2.2.2.1, r1.2.2.2.2.1, r1.2.2.2.2.2.1, r1.2.2.2.2.2.2.1, r1.2.2.2.2.2.2.2.1, r1.2.2.2.2.2.2.2.2, false) else (bif (decide ((IntKind.i64.wrap (a0_2 + (a0_3.length : Int))) ≥ (1000 : Int))) then some (r1.1, r1.2.1, r1.2.2.1, r1.2.2.2.1, r1.2.2.2.2.1, r1.2.2.2.2.2.1, r1.2.2.2.2.2.2.1, r1.2.2.2.2.2.2.2.1, r1.2.2.2.2.2.2.2.2, false) else (bif decide ((r1.2.2.2.1.length + [a1].length) * 16 ≤ 140737488355328) then some (r1.1, r1.2.1, r1.2.2.1, (r1.2.2.2.1 ++ [a1]), r1.2.2.2.2.1, r1.2.2.2.2.2.1, r1.2.2.2.2.2.2.1, r1.2.2.2.2.2.2.2.1, r1.2.2.2.2.2.2.2.2, true) else none)))))
def impl_Push.K : Ctr := ⟨impl_Push.ps, impl_Push.rs, false, (.two (.int .i64) (.two (.int .i64) (.two (.int .i64) (.two (.sl 9 .str) (.two (.sl 92 (.two (.int .i64) (.two .str (.two (.int .i64) (.int .i64))))) (.two (.int .i64) (.two (.sl 87 (.two (.int .i64) .str)) (.two (.sl 3 (.int .i64)) (.two (.sl 9 .str) .str))))))))), (.two (.int .i64) (.two (.int .i64) (.two (.int .i64) (.two (.sl 9 .str) (.two (.sl 92 (.two (.int .i64) (.two .str (.two (.int .i64) (.int .i64))))) (.two (.int .i64) (.two (.sl 87 (.two (.int .i64) .str)) (.two (.sl 3 (.int .i64)) (.two (.sl 9 .str) .bool))))))))), fun k x => impl_Push.f k x.1 x.2.1 x.2.2.1 x.2.2.2.1 x.2.2.2.2.1 x.2.2.2.2.2.1 x.2.2.2.2.2.2.1 x.2.2.2.2.2.2.2.1 x.2.2.2.2.2.2.2.2.1 x.2.2.2.2.2.2.2.2.2⟩
theorem impl_Push.eq (k : Nat) (x : (impl_Push.K.I).den) : func impl_Push.x impl_Push.h impl_Push.ps impl_Push.rs impl_Push.vs impl_Push.K.I impl_Push.K.O impl_Push.c k x = impl_Push.K.run k x := by
  show _ = impl_Push.f k x.1 x.2.1 x.2.2.1 x.2.2.2.1 x.2.2.2.2.1 x.2.2.2.2.2.1 x.2.2.2.2.2.2.1 x.2.2.2.2.2.2.2.1 x.2.2.2.2.2.2.2.2.1 x.2.2.2.2.2.2.2.2.2
  kernel_rfl
theorem impl_Push.ok : CtrOk Try.prog 26 impl_Push.K :=
  CtrOk.of (fn := Try.f26) (cd := impl_Push.c) (cx := impl_Push.x) (hs := impl_Push.h) (by kernel_rfl) (by kernel_rfl) (by kernel_rfl) (by kernel_rfl) tt_ok (envOk_cons impl_copyChan.ok (envOk_cons impl_ChanOk.ok (envOk_nil))) (by kernel_rfl) (by kernel_rfl) (by kernel_rfl) (by kernel_rfl) fun k x r h => (impl_Push.eq k x).trans h
/-! laws.eqStringS -/
noncomputable def laws_eqStringS.c : Code := bodyOf Try.f54
def laws_eqStringS.h : Nat → Hint := look ⟨[], [], []⟩ [(0, ⟨[0, 1, 5], [], []⟩)]
def laws_eqStringS.ps : List PK := [.one, .one]
def laws_eqStringS.rs : List RK := [.one true]
def laws_eqStringS.vs : List ResultVar := [.tmp 4]
def laws_eqStringS.x : Cx := ⟨tt, look none []⟩
def laws_eqStringS.s0 (_k : Nat) (rec0 : (Int × (List (ByteArray)) × (List (ByteArray))) → Option (Bool)) (p : (Int × (List (ByteArray)) × (List (ByteArray)))) : Option (Bool) :=
  (bif (decide (p.1 < (p.2.1.length : Int))) then (bif ((decide ((0 : Int) ≤ p.1)) && (decide (p.1 < (p.2.1.length : Int)))) then (p.2.1[p.1.toNat]?).bind fun x1 => (bif ((decide ((0 : Int) ≤ p.1)) && (decide (p.1 < (p.2.2.length : Int)))) then (p.2.2[p.1.toNat]?).bind fun x2 => (bif (!(x1.toList == x2.toList)) then some false else rec0 ((IntKind.i64.wrap (p.1 + (1 : Int))), p.2.1, p.2.2)) else none) else none) else some true)
def laws_eqStringS.l0 (k : Nat) : Nat → (Int × (List (ByteArray)) × (List (ByteArray))) → Option (Bool)
  | 0 => fun _ => none
  | j + 1 => laws_eqStringS.s0 k (laws_eqStringS.l0 k j)
def laws_eqStringS.S0 (p : (Int × (List (ByteArray)) × (List (ByteArray)))) : DS := ⟨tl [(0, .at (.whole 0)), (1, .at (.whole 16)), (5, .at (.int .i64 p.1))], lookO [(0, .row 9 .str false p.2.1), (16, .row 9 .str false p.2.2)]⟩
noncomputable def laws_eqStringS.D0 (k : Nat) (j : Nat) (p : (Int × (List (ByteArray)) × (List (ByteArray)))) : Option (Bool) := loopK (norm [0, 16] (laws_eqStringS.h 0)) (runK laws_eqStringS.x k 0 [0, 16] laws_eqStringS.h 0 (sub laws_eqStringS.c [1, 1, 0, 1, 0, 0])) j (laws_eqStringS.S0 p) (kBlk 0 (kSeq (runK laws_eqStringS.x k 0 [0, 16] laws_eqStringS.h 0 (sub laws_eqStringS.c [1, 1, 1])) (fin tt laws_eqStringS.ps laws_eqStringS.rs laws_eqStringS.vs .bool)))
theorem laws_eqStringS.D0_eq (k : Nat) : ∀ j, laws_eqStringS.D0 k j = laws_eqStringS.l0 k j := by
  intro j
  induction j with
  | zero => rfl
  | succ j ih =>
    show _ = laws_eqStringS.s0 k (laws_eqStringS.l0 k j)
    rw [← ih]
    funext p
    kernel_rfl
def laws_eqStringS.f (k : Nat) (a0 : List (ByteArray)) (a1 : List (ByteArray)) : Option (Bool) :=
  (bif ((a0.length : Int) != (a1.length : Int)) then some false else laws_eqStringS.l0 k k ((0 : Int), a0, a1))
def laws_eqStringS.K : Ctr := ⟨laws_eqStringS.ps, laws_eqStringS.rs, false, (.two (.sl 9 .str) (.sl 9 .str)), .bool, fun k x => laws_eqStringS.f k x.1 x.2⟩
theorem laws_eqStringS.eq (k : Nat) (x : (laws_eqStringS.K.I).den) : func laws_eqStringS.x laws_eqStringS.h laws_eqStringS.ps laws_eqStringS.rs laws_eqStringS.vs laws_eqStringS.K.I laws_eqStringS.K.O laws_eqStringS.c k x = laws_eqStringS.K.run k x := by
  show _ = laws_eqStringS.f k x.1 x.2
  unfold laws_eqStringS.f
  rw [← laws_eqStringS.D0_eq k k]
  kernel_rfl
theorem laws_eqStringS.ok : CtrOk Try.prog 54 laws_eqStringS.K :=
  CtrOk.of (fn := Try.f54) (cd := laws_eqStringS.c) (cx := laws_eqStringS.x) (hs := laws_eqStringS.h) (by kernel_rfl) (by kernel_rfl) (by kernel_rfl) (by kernel_rfl) tt_ok (envOk_nil) (by kernel_rfl) (by kernel_rfl) (by kernel_rfl) (by kernel_rfl) fun k x r h => (laws_eqStringS.eq k x).trans h
/-! laws.eqPending -/
noncomputable def laws_eqPending.c : Code := bodyOf Try.f100
def laws_eqPending.h : Nat → Hint := look ⟨[], [], []⟩ []
def laws_eqPending.ps : List PK := [.agg 4, .agg 4]
def laws_eqPending.rs : List RK := [.one true]
def laws_eqPending.vs : List ResultVar := [.tmp 4]
def laws_eqPending.x : Cx := ⟨tt, look none []⟩
def laws_eqPending.f (_k : Nat) (a0_0 : Int) (a0_1 : ByteArray) (a0_2 : Int) (a0_3 : Int) (a1_0 : Int) (a1_1 : ByteArray) (a1_2 : Int) (a1_3 : Int) : Option (Bool) :=
  (bif (a0_0 != a1_0) then some false else (bif (!(a0_1.toList == a1_1.toList)) then some false else (bif (a0_2 != a1_2) then some false else (bif (a0_3 != a1_3) then some false else some true))))
def laws_eqPending.K : Ctr := ⟨laws_eqPending.ps, laws_eqPending.rs, false, (.two (.int .i64) (.two .str (.two (.int .i64) (.two (.int .i64) (.two (.int .i64) (.two .str (.two (.int .i64) (.int .i64)))))))), .bool, fun k x => laws_eqPending.f k x.1 x.2.1 x.2.2.1 x.2.2.2.1 x.2.2.2.2.1 x.2.2.2.2.2.1 x.2.2.2.2.2.2.1 x.2.2.2.2.2.2.2⟩
theorem laws_eqPending.eq (k : Nat) (x : (laws_eqPending.K.I).den) : func laws_eqPending.x laws_eqPending.h laws_eqPending.ps laws_eqPending.rs laws_eqPending.vs laws_eqPending.K.I laws_eqPending.K.O laws_eqPending.c k x = laws_eqPending.K.run k x := by
  show _ = laws_eqPending.f k x.1 x.2.1 x.2.2.1 x.2.2.2.1 x.2.2.2.2.1 x.2.2.2.2.2.1 x.2.2.2.2.2.2.1 x.2.2.2.2.2.2.2
  kernel_rfl
theorem laws_eqPending.ok : CtrOk Try.prog 100 laws_eqPending.K :=
  CtrOk.of (fn := Try.f100) (cd := laws_eqPending.c) (cx := laws_eqPending.x) (hs := laws_eqPending.h) (by kernel_rfl) (by kernel_rfl) (by kernel_rfl) (by kernel_rfl) tt_ok (envOk_nil) (by kernel_rfl) (by kernel_rfl) (by kernel_rfl) (by kernel_rfl) fun k x r h => (laws_eqPending.eq k x).trans h
/-! laws.eqPendingS -/
noncomputable def laws_eqPendingS.c : Code := bodyOf Try.f55
def laws_eqPendingS.h : Nat → Hint := look ⟨[], [], []⟩ [(0, ⟨[0, 1, 5], [], []⟩)]
def laws_eqPendingS.ps : List PK := [.one, .one]
def laws_eqPendingS.rs : List RK := [.one true]
def laws_eqPendingS.vs : List ResultVar := [.tmp 4]
def laws_eqPendingS.x : Cx := ⟨tt, look none [(100, some laws_eqPending.K)]⟩
def laws_eqPendingS.s0 (k : Nat) (rec0 : (Int × (List (Int × ByteArray × Int × Int)) × (List (Int × ByteArray × Int × Int))) → Option (Bool)) (p : (Int × (List (Int × ByteArray × Int × Int)) × (List (Int × ByteArray × Int × Int)))) : Option (Bool) :=
  (bif (decide (p.1 < (p.2.1.length : Int))) then (bif ((decide ((0 : Int) ≤ p.1)) && (decide (p.1 < (p.2.1.length : Int)))) then (p.2.1[p.1.toNat]?).bind fun x1 => (bif ((decide ((0 : Int) ≤ p.1)) && (decide (p.1 < (p.2.2.length : Int)))) then (p.2.2[p.1.toNat]?).bind fun x2 => (laws_eqPending.f k x1.1 x1.2.1 x1.2.2.1 x1.2.2.2 x2.1 x2.2.1 x2.2.2.1 x2.2.2.2).bind fun r3 => (bif (!r3) then some false else rec0 ((IntKind.i64.wrap (p.1 + (1 : Int))), p.2.1, p.2.2)) else none) else none) else some true)
def laws_eqPendingS.l0 (k : Nat) : Nat → (Int × (List (Int × ByteArray × Int × Int)) × (List (Int × ByteArray × Int × Int))) → Option (Bool)
  | 0 => fun _ => none
  | j + 1 => laws_eqPendingS.s0 k (laws_eqPendingS.l0 k j)
def laws_eqPendingS.S0 (p : (Int × (List (Int × ByteArray × Int × Int)) × (List (Int × ByteArray × Int × Int)))) : DS := ⟨tl [(0, .at (.whole 0)), (1, .at (.whole 16)), (5, .at (.int .i64 p.1))], lookO [(0, .row 92 (.two (.int .i64) (.two .str (.two (.int .i64) (.int .i64)))) false p.2.1), (16, .row 92 (.two (.int .i64) (.two .str (.two (.int .i64) (.int .i64)))) false p.2.2)]⟩
noncomputable def laws_eqPendingS.D0 (k : Nat) (j : Nat) (p : (Int × (List (Int × ByteArray × Int × Int)) × (List (Int × ByteArray × Int × Int)))) : Option (Bool) := loopK (norm [0, 16] (laws_eqPendingS.h 0)) (runK laws_eqPendingS.x k 0 [0, 16] laws_eqPendingS.h 0 (sub laws_eqPendingS.c [1, 1, 0, 1, 0, 0])) j (laws_eqPendingS.S0 p) (kBlk 0 (kSeq (runK laws_eqPendingS.x k 0 [0, 16] laws_eqPendingS.h 0 (sub laws_eqPendingS.c [1, 1, 1])) (fin tt laws_eqPendingS.ps laws_eqPendingS.rs laws_eqPendingS.vs .bool)))
theorem laws_eqPendingS.D0_eq (k : Nat) : ∀ j, laws_eqPendingS.D0 k j = laws_eqPendingS.l0 k j := by
  intro j
  induction j with
  | zero => rfl
  | succ j ih =>
    show _ = laws_eqPendingS.s0 k (laws_eqPendingS.l0 k j)
    rw [← ih]
    funext p
    kernel_rfl
def laws_eqPendingS.f (k : Nat) (a0 : List (Int × ByteArray × Int × Int)) (a1 : List (Int × ByteArray × Int × Int)) : Option (Bool) :=
  (bif ((a0.length : Int) != (a1.length : Int)) then some false else laws_eqPendingS.l0 k k ((0 : Int), a0, a1))
def laws_eqPendingS.K : Ctr := ⟨laws_eqPendingS.ps, laws_eqPendingS.rs, false, (.two (.sl 92 (.two (.int .i64) (.two .str (.two (.int .i64) (.int .i64))))) (.sl 92 (.two (.int .i64) (.two .str (.two (.int .i64) (.int .i64)))))), .bool, fun k x => laws_eqPendingS.f k x.1 x.2⟩
theorem laws_eqPendingS.eq (k : Nat) (x : (laws_eqPendingS.K.I).den) : func laws_eqPendingS.x laws_eqPendingS.h laws_eqPendingS.ps laws_eqPendingS.rs laws_eqPendingS.vs laws_eqPendingS.K.I laws_eqPendingS.K.O laws_eqPendingS.c k x = laws_eqPendingS.K.run k x := by
  show _ = laws_eqPendingS.f k x.1 x.2
  unfold laws_eqPendingS.f
  rw [← laws_eqPendingS.D0_eq k k]
  kernel_rfl
theorem laws_eqPendingS.ok : CtrOk Try.prog 55 laws_eqPendingS.K :=
  CtrOk.of (fn := Try.f55) (cd := laws_eqPendingS.c) (cx := laws_eqPendingS.x) (hs := laws_eqPendingS.h) (by kernel_rfl) (by kernel_rfl) (by kernel_rfl) (by kernel_rfl) tt_ok (envOk_cons laws_eqPending.ok (envOk_nil)) (by kernel_rfl) (by kernel_rfl) (by kernel_rfl) (by kernel_rfl) fun k x r h => (laws_eqPendingS.eq k x).trans h
/-! laws.eqEarly -/
noncomputable def laws_eqEarly.c : Code := bodyOf Try.f101
def laws_eqEarly.h : Nat → Hint := look ⟨[], [], []⟩ []
def laws_eqEarly.ps : List PK := [.agg 2, .agg 2]
def laws_eqEarly.rs : List RK := [.one true]
def laws_eqEarly.vs : List ResultVar := [.tmp 4]
def laws_eqEarly.x : Cx := ⟨tt, look none []⟩
def laws_eqEarly.f (_k : Nat) (a0_0 : Int) (a0_1 : ByteArray) (a1_0 : Int) (a1_1 : ByteArray) : Option (Bool) :=
  (bif (a0_0 != a1_0) then some false else (bif (!(a0_1.toList == a1_1.toList)) then some false else some true))
def laws_eqEarly.K : Ctr := ⟨laws_eqEarly.ps, laws_eqEarly.rs, false, (.two (.int .i64) (.two .str (.two (.int .i64) .str))), .bool, fun k x => laws_eqEarly.f k x.1 x.2.1 x.2.2.1 x.2.2.2⟩
theorem laws_eqEarly.eq (k : Nat) (x : (laws_eqEarly.K.I).den) : func laws_eqEarly.x laws_eqEarly.h laws_eqEarly.ps laws_eqEarly.rs laws_eqEarly.vs laws_eqEarly.K.I laws_eqEarly.K.O laws_eqEarly.c k x = laws_eqEarly.K.run k x := by
  show _ = laws_eqEarly.f k x.1 x.2.1 x.2.2.1 x.2.2.2
  kernel_rfl
theorem laws_eqEarly.ok : CtrOk Try.prog 101 laws_eqEarly.K :=
  CtrOk.of (fn := Try.f101) (cd := laws_eqEarly.c) (cx := laws_eqEarly.x) (hs := laws_eqEarly.h) (by kernel_rfl) (by kernel_rfl) (by kernel_rfl) (by kernel_rfl) tt_ok (envOk_nil) (by kernel_rfl) (by kernel_rfl) (by kernel_rfl) (by kernel_rfl) fun k x r h => (laws_eqEarly.eq k x).trans h
/-! laws.eqEarlyS -/
noncomputable def laws_eqEarlyS.c : Code := bodyOf Try.f56
def laws_eqEarlyS.h : Nat → Hint := look ⟨[], [], []⟩ [(0, ⟨[0, 1, 5], [], []⟩)]
def laws_eqEarlyS.ps : List PK := [.one, .one]
def laws_eqEarlyS.rs : List RK := [.one true]
def laws_eqEarlyS.vs : List ResultVar := [.tmp 4]
def laws_eqEarlyS.x : Cx := ⟨tt, look none [(101, some laws_eqEarly.K)]⟩
def laws_eqEarlyS.s0 (k : Nat) (rec0 : (Int × (List (Int × ByteArray)) × (List (Int × ByteArray))) → Option (Bool)) (p : (Int × (List (Int × ByteArray)) × (List (Int × ByteArray)))) : Option (Bool) :=
  (bif (decide (p.1 < (p.2.1.length : Int))) then (bif ((decide ((0 : Int) ≤ p.1)) && (decide (p.1 < (p.2.1.length : Int)))) then (p.2.1[p.1.toNat]?).bind fun x1 => (bif ((decide ((0 : Int) ≤ p.1)) && (decide (p.1 < (p.2.2.length : Int)))) then (p.2.2[p.1.toNat]?).bind fun x2 => (laws_eqEarly.f k x1.1 x1.2 x2.1 x2.2).bind fun r3 => (bif (!r3) then some false else rec0 ((IntKind.i64.wrap (p.1 + (1 : Int))), p.2.1, p.2.2)) else none) else none) else some true)
def laws_eqEarlyS.l0 (k : Nat) : Nat → (Int × (List (Int × ByteArray)) × (List (Int × ByteArray))) → Option (Bool)
  | 0 => fun _ => none
  | j + 1 => laws_eqEarlyS.s0 k (laws_eqEarlyS.l0 k j)
def laws_eqEarlyS.S0 (p : (Int × (List (Int × ByteArray)) × (List (Int × ByteArray)))) : DS := ⟨tl [(0, .at (.whole 0)), (1, .at (.whole 16)), (5, .at (.int .i64 p.1))], lookO [(0, .row 87 (.two (.int .i64) .str) false p.2.1), (16, .row 87 (.two (.int .i64) .str) false p.2.2)]⟩
noncomputable def laws_eqEarlyS.D0 (k : Nat) (j : Nat) (p : (Int × (List (Int × ByteArray)) × (List (Int × ByteArray)))) : Option (Bool) := loopK (norm [0, 16] (laws_eqEarlyS.h 0)) (runK laws_eqEarlyS.x k 0 [0, 16] laws_eqEarlyS.h 0 (sub laws_eqEarlyS.c [1, 1, 0, 1, 0, 0])) j (laws_eqEarlyS.S0 p) (kBlk 0 (kSeq (runK laws_eqEarlyS.x k 0 [0, 16] laws_eqEarlyS.h 0 (sub laws_eqEarlyS.c [1, 1, 1])) (fin tt laws_eqEarlyS.ps laws_eqEarlyS.rs laws_eqEarlyS.vs .bool)))
theorem laws_eqEarlyS.D0_eq (k : Nat) : ∀ j, laws_eqEarlyS.D0 k j = laws_eqEarlyS.l0 k j := by
  intro j
  induction j with
  | zero => rfl
  | succ j ih =>
    show _ = laws_eqEarlyS.s0 k (laws_eqEarlyS.l0 k j)
    rw [← ih]
    funext p
    kernel_rfl
def laws_eqEarlyS.f (k : Nat) (a0 : List (Int × ByteArray)) (a1 : List (Int × ByteArray)) : Option (Bool) :=
  (bif ((a0.length : Int) != (a1.length : Int)) then some false else laws_eqEarlyS.l0 k k ((0 : Int), a0, a1))
def laws_eqEarlyS.K : Ctr := ⟨laws_eqEarlyS.ps, laws_eqEarlyS.rs, false, (.two (.sl 87 (.two (.int .i64) .str)) (.sl 87 (.two (.int .i64) .str))), .bool, fun k x => laws_eqEarlyS.f k x.1 x.2⟩
theorem laws_eqEarlyS.eq (k : Nat) (x : (laws_eqEarlyS.K.I).den) : func laws_eqEarlyS.x laws_eqEarlyS.h laws_eqEarlyS.ps laws_eqEarlyS.rs laws_eqEarlyS.vs laws_eqEarlyS.K.I laws_eqEarlyS.K.O laws_eqEarlyS.c k x = laws_eqEarlyS.K.run k x := by
  show _ = laws_eqEarlyS.f k x.1 x.2
  unfold laws_eqEarlyS.f
  rw [← laws_eqEarlyS.D0_eq k k]
  kernel_rfl
theorem laws_eqEarlyS.ok : CtrOk Try.prog 56 laws_eqEarlyS.K :=
  CtrOk.of (fn := Try.f56) (cd := laws_eqEarlyS.c) (cx := laws_eqEarlyS.x) (hs := laws_eqEarlyS.h) (by kernel_rfl) (by kernel_rfl) (by kernel_rfl) (by kernel_rfl) tt_ok (envOk_cons laws_eqEarly.ok (envOk_nil)) (by kernel_rfl) (by kernel_rfl) (by kernel_rfl) (by kernel_rfl) fun k x r h => (laws_eqEarlyS.eq k x).trans h
/-! laws.eqIntS -/
noncomputable def laws_eqIntS.c : Code := bodyOf Try.f51
def laws_eqIntS.h : Nat → Hint := look ⟨[], [], []⟩ [(0, ⟨[0, 1, 5], [], []⟩)]
def laws_eqIntS.ps : List PK := [.one, .one]
def laws_eqIntS.rs : List RK := [.one true]
def laws_eqIntS.vs : List ResultVar := [.tmp 4]
def laws_eqIntS.x : Cx := ⟨tt, look none []⟩
def laws_eqIntS.s0 (_k : Nat) (rec0 : (Int × (List (Int)) × (List (Int))) → Option (Bool)) (p : (Int × (List (Int)) × (List (Int)))) : Option (Bool) :=
  (bif (decide (p.1 < (p.2.1.length : Int))) then (bif ((decide ((0 : Int) ≤ p.1)) && (decide (p.1 < (p.2.1.length : Int)))) then (p.2.1[p.1.toNat]?).bind fun x1 => (bif ((decide ((0 : Int) ≤ p.1)) && (decide (p.1 < (p.2.2.length : Int)))) then (p.2.2[p.1.toNat]?).bind fun x2 => (bif (x1 != x2) then some false else rec0 ((IntKind.i64.wrap (p.1 + (1 : Int))), p.2.1, p.2.2)) else none) else none) else some true)
def laws_eqIntS.l0 (k : Nat) : Nat → (Int × (List (Int)) × (List (Int))) → Option (Bool)
  | 0 => fun _ => none
  | j + 1 => laws_eqIntS.s0 k (laws_eqIntS.l0 k j)
def laws_eqIntS.S0 (p : (Int × (List (Int)) × (List (Int)))) : DS := ⟨tl [(0, .at (.whole 0)), (1, .at (.whole 16)), (5, .at (.int .i64 p.1))], lookO [(0, .row 3 (.int .i64) false p.2.1), (16, .row 3 (.int .i64) false p.2.2)]⟩
noncomputable def laws_eqIntS.D0 (k : Nat) (j : Nat) (p : (Int × (List (Int)) × (List (Int)))) : Option (Bool) := loopK (norm [0, 16] (laws_eqIntS.h 0)) (runK laws_eqIntS.x k 0 [0, 16] laws_eqIntS.h 0 (sub laws_eqIntS.c [1, 1, 0, 1, 0, 0])) j (laws_eqIntS.S0 p) (kBlk 0 (kSeq (runK laws_eqIntS.x k 0 [0, 16] laws_eqIntS.h 0 (sub laws_eqIntS.c [1, 1, 1])) (fin tt laws_eqIntS.ps laws_eqIntS.rs laws_eqIntS.vs .bool)))
theorem laws_eqIntS.D0_eq (k : Nat) : ∀ j, laws_eqIntS.D0 k j = laws_eqIntS.l0 k j := by
  intro j
  induction j with
  | zero => rfl
  | succ j ih =>
    show _ = laws_eqIntS.s0 k (laws_eqIntS.l0 k j)
    rw [← ih]
    funext p
    kernel_rfl
def laws_eqIntS.f (k : Nat) (a0 : List (Int)) (a1 : List (Int)) : Option (Bool) :=
  (bif ((a0.length : Int) != (a1.length : Int)) then some false else laws_eqIntS.l0 k k ((0 : Int), a0, a1))
def laws_eqIntS.K : Ctr := ⟨laws_eqIntS.ps, laws_eqIntS.rs, false, (.two (.sl 3 (.int .i64)) (.sl 3 (.int .i64))), .bool, fun k x => laws_eqIntS.f k x.1 x.2⟩
theorem laws_eqIntS.eq (k : Nat) (x : (laws_eqIntS.K.I).den) : func laws_eqIntS.x laws_eqIntS.h laws_eqIntS.ps laws_eqIntS.rs laws_eqIntS.vs laws_eqIntS.K.I laws_eqIntS.K.O laws_eqIntS.c k x = laws_eqIntS.K.run k x := by
  show _ = laws_eqIntS.f k x.1 x.2
  unfold laws_eqIntS.f
  rw [← laws_eqIntS.D0_eq k k]
  kernel_rfl
theorem laws_eqIntS.ok : CtrOk Try.prog 51 laws_eqIntS.K :=
  CtrOk.of (fn := Try.f51) (cd := laws_eqIntS.c) (cx := laws_eqIntS.x) (hs := laws_eqIntS.h) (by kernel_rfl) (by kernel_rfl) (by kernel_rfl) (by kernel_rfl) tt_ok (envOk_nil) (by kernel_rfl) (by kernel_rfl) (by kernel_rfl) (by kernel_rfl) fun k x r h => (laws_eqIntS.eq k x).trans h
/-! laws.eqChan -/
noncomputable def laws_eqChan.c : Code := bodyOf Try.f18
def laws_eqChan.h : Nat → Hint := look ⟨[], [], []⟩ []
def laws_eqChan.ps : List PK := [.agg 9, .agg 9]
def laws_eqChan.rs : List RK := [.one true]
def laws_eqChan.vs : List ResultVar := [.tmp 4]
def laws_eqChan.x : Cx := ⟨tt, look none [(54, some laws_eqStringS.K), (55, some laws_eqPendingS.K), (56, some laws_eqEarlyS.K), (51, some laws_eqIntS.K)]⟩
def laws_eqChan.f (k : Nat) (a0_0 : Int) (a0_1 : Int) (a0_2 : Int) (a0_3 : List (ByteArray)) (a0_4 : List (Int × ByteArray × Int × Int)) (a0_5 : Int) (a0_6 : List (Int × ByteArray)) (a0_7 : List (Int)) (a0_8 : List (ByteArray)) (a1_0 : Int) (a1_1 : Int) (a1_2 : Int) (a1_3 : List (ByteArray)) (a1_4 : List (Int × ByteArray × Int × Int)) (a1_5 : Int) (a1_6 : List (Int × ByteArray)) (a1_7 : List (Int)) (a1_8 : List (ByteArray)) : Option (Bool) :=
  (bif (a0_0 != a1_0) then some false else (bif (a0_1 != a1_1) then some false else (bif (a0_2 != a1_2) then some false else (laws_eqStringS.f k a0_3 a1_3).bind fun r1 => (bif (!r1) then some false else (laws_eqPendingS.f k a0_4 a1_4).bind fun r2 => (bif (!r2) then some false else (bif (a0_5 != a1_5) then some false else (laws_eqEarlyS.f k a0_6 a1_6).bind fun r3 => (bif (!r3) then some false else (laws_eqIntS.f k a0_7 a1_7).bind fun r4 => (bif (!r4) then some false else (laws_eqStringS.f k a0_8 a1_8).bind fun r5 => (bif (!r5) then some false else some true)))))))))
def laws_eqChan.K : Ctr := ⟨laws_eqChan.ps, laws_eqChan.rs, false, (.two (.int .i64) (.two (.int .i64) (.two (.int .i64) (.two (.sl 9 .str) (.two (.sl 92 (.two (.int .i64) (.two .str (.two (.int .i64) (.int .i64))))) (.two (.int .i64) (.two (.sl 87 (.two (.int .i64) .str)) (.two (.sl 3 (.int .i64)) (.two (.sl 9 .str) (.two (.int .i64) (.two (.int .i64) (.two (.int .i64) (.two (.sl 9 .str) (.two (.sl 92 (.two (.int .i64) (.two .str (.two (.int .i64) (.int .i64))))) (.two (.int .i64) (.two (.sl 87 (.two (.int .i64) .str)) (.two (.sl 3 (.int .i64)) (.sl 9 .str)))))))))))))))))), .bool, fun k x => laws_eqChan.f k x.1 x.2.1 x.2.2.1 x.2.2.2.1 x.2.2.2.2.1 x.2.2.2.2.2.1 x.2.2.2.2.2.2.1 x.2.2.2.2.2.2.2.1 x.2.2.2.2.2.2.2.2.1 x.2.2.2.2.2.2.2.2.2.1 x.2.2.2.2.2.2.2.2.2.2.1 x.2.2.2.2.2.2.2.2.2.2.2.1 x.2.2.2.2.2.2.2.2.2.2.2.2.1 x.2.2.2.2.2.2.2.2.2.2.2.2.2.1 x.2.2.2.2.2.2.2.2.2.2.2.2.2.2.1 x.2.2.2.2.2.2.2.2.2.2.2.2.2.2.2.1 x.2.2.2.2.2.2.2.2.2.2.2.2.2.2.2.2.1 x.2.2.2.2.2.2.2.2.2.2.2.2.2.2.2.2.2⟩
theorem laws_eqChan.eq (k : Nat) (x : (laws_eqChan.K.I).den) : func laws_eqChan.x laws_eqChan.h laws_eqChan.ps laws_eqChan.rs laws_eqChan.vs laws_eqChan.K.I laws_eqChan.K.O laws_eqChan.c k x = laws_eqChan.K.run k x := by
  show _ = laws_eqChan.f k x.1 x.2.1 x.2.2.1 x.2.2.2.1 x.2.2.2.2.1 x.2.2.2.2.2.1 x.2.2.2.2.2.2.1 x.2.2.2.2.2.2.2.1 x.2.2.2.2.2.2.2.2.1 x.2.2.2.2.2.2.2.2.2.1 x.2.2.2.2.2.2.2.2.2.2.1 x.2.2.2.2.2.2.2.2.2.2.2.1 x.2.2.2.2.2.2.2.2.2.2.2.2.1 x.2.2.2.2.2.2.2.2.2.2.2.2.2.1 x.2.2.2.2.2.2.2.2.2.2.2.2.2.2.1 x.2.2.2.2.2.2.2.2.2.2.2.2.2.2.2.1 x.2.2.2.2.2.2.2.2.2.2.2.2.2.2.2.2.1 x.2.2.2.2.2.2.2.2.2.2.2.2.2.2.2.2.2
  kernel_rfl
theorem laws_eqChan.ok : CtrOk Try.prog 18 laws_eqChan.K :=
  CtrOk.of (fn := Try.f18) (cd := laws_eqChan.c) (cx := laws_eqChan.x) (hs := laws_eqChan.h) (by kernel_rfl) (by kernel_rfl) (by kernel_rfl) (by kernel_rfl) tt_ok (envOk_cons laws_eqStringS.ok (envOk_cons laws_eqPendingS.ok (envOk_cons laws_eqEarlyS.ok (envOk_cons laws_eqIntS.ok (envOk_nil))))) (by kernel_rfl) (by kernel_rfl) (by kernel_rfl) (by kernel_rfl) fun k x r h => (laws_eqChan.eq k x).trans h
end Go.Proofs.Ytpheniajdbbphaa.DI
