/- FnGrants: functions as plain Lean, in the machine of values. -/
import Derived.Test.YtfaeklomiofpdaaVFnGrants1
namespace Go.Proofs.Ytfaeklomiofpdaa.DI
open Go
set_option linter.unusedVariables false
/-! spec.PoolOk -/
noncomputable def spec_PoolOk.c : Code := bodyOf Try.f94
def spec_PoolOk.h : Nat → Hint := look ⟨[], [], []⟩ [(0, ⟨[1, 3], [16], []⟩), (2, ⟨[1, 5], [16], []⟩), (4, ⟨[1, 5, 6, 8], [16, 96], []⟩)]
def spec_PoolOk.ps : List PK := [.agg 4]
def spec_PoolOk.rs : List RK := [.one true]
def spec_PoolOk.vs : List ResultVar := [.tmp 2]
def spec_PoolOk.x : Cx := ⟨tt, look none [(100, some spec_PrefixOk.K), (98, some spec_l01In.K), (136, some spec_l11Inside.K), (137, some spec_l11FixedFor.K)]⟩
def spec_PoolOk.s4 (_k : Nat) (rec2 : (Int × (List (Int × Int × Int)) × (List (Int × Int)) × Int × Int) → Option (Bool)) (rec4 : (Int × Int × (List (Int × Int × Int)) × (List (Int × Int)) × Int × Int × Int × Int × Int) → Option (Bool)) (p : (Int × Int × (List (Int × Int × Int)) × (List (Int × Int)) × Int × Int × Int × Int × Int)) : Option (Bool) :=
  (bif (decide (p.2.1 < p.1)) then (bif ((decide ((0 : Int) ≤ p.2.1)) && (decide (p.2.1 < (p.2.2.1.length : Int)))) then (p.2.2.1[p.2.1.toNat]?).bind fun x15 => (bif (x15.2.1 == p.2.2.2.2.2.2.2.1) then some false else rec4 (p.1, (IntKind.i64.wrap (p.2.1 + (1 : Int))), p.2.2.1, p.2.2.2.1, p.2.2.2.2.1, p.2.2.2.2.2.1, p.2.2.2.2.2.2.1, p.2.2.2.2.2.2.2.1, p.2.2.2.2.2.2.2.2)) else none) else rec2 ((IntKind.i64.wrap (p.1 + (1 : Int))), p.2.2.1, p.2.2.2.1, p.2.2.2.2.1, p.2.2.2.2.2.1))
def spec_PoolOk.l4 (k : Nat) (rec2 : (Int × (List (Int × Int × Int)) × (List (Int × Int)) × Int × Int) → Option (Bool)) : Nat → (Int × Int × (List (Int × Int × Int)) × (List (Int × Int)) × Int × Int × Int × Int × Int) → Option (Bool)
  | 0 => fun _ => none
  | j + 1 => spec_PoolOk.s4 k rec2 (spec_PoolOk.l4 k rec2 j)
def spec_PoolOk.s2 (k : Nat) (_rec2 : (Int × (List (Int × Int × Int)) × (List (Int × Int)) × Int × Int) → Option (Bool)) (i4 : (Int × Int × (List (Int × Int × Int)) × (List (Int × Int)) × Int × Int × Int × Int × Int) → Option (Bool)) (p : (Int × (List (Int × Int × Int)) × (List (Int × Int)) × Int × Int)) : Option (Bool) :=
  (bif (decide (p.1 < (p.2.1.length : Int))) then (bif ((decide ((0 : Int) ≤ p.1)) && (decide (p.1 < (p.2.1.length : Int)))) then (p.2.1[p.1.toNat]?).bind fun x9 => (spec_l11Inside.f k p.2.2.2.1 p.2.2.2.2 p.2.1 p.2.2.1 x9.1).bind fun r10 => (bif (!r10) then some false else (spec_l01In.f k x9.2.1 (1 : Int) (99 : Int)).bind fun r11 => (bif (!r11) then some false else (spec_l01In.f k x9.2.2 (0 : Int) (1000000000 : Int)).bind fun r12 => (bif (!r12) then some false else (bif (decide (p.1 > (0 : Int))) then (bif ((decide ((0 : Int) ≤ (IntKind.i64.wrap (p.1 - (1 : Int))))) && (decide ((IntKind.i64.wrap (p.1 - (1 : Int))) < (p.2.1.length : Int)))) then (p.2.1[(IntKind.i64.wrap (p.1 - (1 : Int))).toNat]?).bind fun x13 => (bif (decide (x13.1 ≥ x9.1)) then some false else (spec_l11FixedFor.f k p.2.2.2.1 p.2.2.2.2 p.2.1 p.2.2.1 x9.1).bind fun r14 => (bif (r14 != (0 : Int)) then (bif (r14 != x9.2.1) then some false else i4 (p.1, (0 : Int), p.2.1, p.2.2.1, p.2.2.2.1, p.2.2.2.2, x9.1, x9.2.1, x9.2.2)) else i4 (p.1, (0 : Int), p.2.1, p.2.2.1, p.2.2.2.1, p.2.2.2.2, x9.1, x9.2.1, x9.2.2))) else none) else (spec_l11FixedFor.f k p.2.2.2.1 p.2.2.2.2 p.2.1 p.2.2.1 x9.1).bind fun r16 => (bif (r16 != (0 : Int)) then (bif (r16 != x9.2.1) then some false else i4 (p.1, (0 : Int), p.2.1, p.2.2.1, p.2.2.2.1, p.2.2.2.2, x9.1, x9.2.1, x9.2.2)) else i4 (p.1, (0 : Int), p.2.1, p.2.2.1, p.2.2.2.1, p.2.2.2.2, x9.1, x9.2.1, x9.2.2)))))) else none) else some true)
def spec_PoolOk.l2 (k : Nat) : Nat → (Int × (List (Int × Int × Int)) × (List (Int × Int)) × Int × Int) → Option (Bool)
  | 0 => fun _ => none
  | j + 1 => spec_PoolOk.s2 k (spec_PoolOk.l2 k j) (spec_PoolOk.l4 k (spec_PoolOk.l2 k j) k)
def spec_PoolOk.s0 (k : Nat) (rec0 : (Int × (List (Int × Int × Int)) × (List (Int × Int)) × Int × Int) → Option (Bool)) (i2 : (Int × (List (Int × Int × Int)) × (List (Int × Int)) × Int × Int) → Option (Bool)) (p : (Int × (List (Int × Int × Int)) × (List (Int × Int)) × Int × Int)) : Option (Bool) :=
  (bif (decide (p.1 < (p.2.2.1.length : Int))) then (bif ((decide ((0 : Int) ≤ p.1)) && (decide (p.1 < (p.2.2.1.length : Int)))) then (p.2.2.1[p.1.toNat]?).bind fun x3 => (spec_l01In.f k x3.1 (1 : Int) (99 : Int)).bind fun r4 => (bif (!r4) then some false else (spec_l11Inside.f k p.2.2.2.1 p.2.2.2.2 p.2.1 p.2.2.1 x3.2).bind fun r5 => (bif (!r5) then some false else (bif (decide (p.1 > (0 : Int))) then (bif ((decide ((0 : Int) ≤ (IntKind.i64.wrap (p.1 - (1 : Int))))) && (decide ((IntKind.i64.wrap (p.1 - (1 : Int))) < (p.2.2.1.length : Int)))) then (p.2.2.1[(IntKind.i64.wrap (p.1 - (1 : Int))).toNat]?).bind fun x6 => (bif (decide (x6.1 ≥ x3.1)) then some false else (spec_l11FixedFor.f k p.2.2.2.1 p.2.2.2.2 p.2.1 p.2.2.1 x3.2).bind fun r7 => (bif (r7 != x3.1) then some false else rec0 ((IntKind.i64.wrap (p.1 + (1 : Int))), p.2.1, p.2.2.1, p.2.2.2.1, p.2.2.2.2))) else none) else (spec_l11FixedFor.f k p.2.2.2.1 p.2.2.2.2 p.2.1 p.2.2.1 x3.2).bind fun r8 => (bif (r8 != x3.1) then some false else rec0 ((IntKind.i64.wrap (p.1 + (1 : Int))), p.2.1, p.2.2.1, p.2.2.2.1, p.2.2.2.2))))) else none) else i2 ((0 : Int), p.2.1, p.2.2.1, p.2.2.2.1, p.2.2.2.2))
def spec_PoolOk.l0 (k : Nat) : Nat → (Int × (List (Int × Int × Int)) × (List (Int × Int)) × Int × Int) → Option (Bool)
  | 0 => fun _ => none
  | j + 1 => spec_PoolOk.s0 k (spec_PoolOk.l0 k j) (spec_PoolOk.l2 k k)
def spec_PoolOk.S4 (p : (Int × Int × (List (Int × Int × Int)) × (List (Int × Int)) × Int × Int × Int × Int × Int)) : DS := ⟨tl [(1, .at (.bptr 16 0)), (5, .at (.int .i64 p.1)), (6, .at (.bptr 96 0)), (8, .at (.int .i64 p.2.1))], lookO [(2, .row 63 (.two (.int .i64) (.two (.int .i64) (.int .i64))) false p.2.2.1), (3, .row 150 (.two (.int .i64) (.int .i64)) false p.2.2.2.1), (16, .box 50 [.int .i64 p.2.2.2.2.1, .int .i64 p.2.2.2.2.2.1, .whole 2, .whole 3]), (96, .box 63 [.int .i64 p.2.2.2.2.2.2.1, .int .i64 p.2.2.2.2.2.2.2.1, .int .i64 p.2.2.2.2.2.2.2.2])]⟩
def spec_PoolOk.S2 (p : (Int × (List (Int × Int × Int)) × (List (Int × Int)) × Int × Int)) : DS := ⟨tl [(1, .at (.bptr 16 0)), (5, .at (.int .i64 p.1))], lookO [(2, .row 63 (.two (.int .i64) (.two (.int .i64) (.int .i64))) false p.2.1), (3, .row 150 (.two (.int .i64) (.int .i64)) false p.2.2.1), (16, .box 50 [.int .i64 p.2.2.2.1, .int .i64 p.2.2.2.2, .whole 2, .whole 3])]⟩
def spec_PoolOk.S0 (p : (Int × (List (Int × Int × Int)) × (List (Int × Int)) × Int × Int)) : DS := ⟨tl [(1, .at (.bptr 16 0)), (3, .at (.int .i64 p.1))], lookO [(2, .row 63 (.two (.int .i64) (.two (.int .i64) (.int .i64))) false p.2.1), (3, .row 150 (.two (.int .i64) (.int .i64)) false p.2.2.1), (16, .box 50 [.int .i64 p.2.2.2.1, .int .i64 p.2.2.2.2, .whole 2, .whole 3])]⟩
noncomputable def spec_PoolOk.D4 (k : Nat) (j2 : Nat) (j : Nat) (p : (Int × Int × (List (Int × Int × Int)) × (List (Int × Int)) × Int × Int × Int × Int × Int)) : Option (Bool) := loopK (norm [2, 3] (spec_PoolOk.h 4)) (runK spec_PoolOk.x k 0 [2, 3] spec_PoolOk.h 4 (sub spec_PoolOk.c [1, 1, 1, 0, 1, 0, 0, 1, 0, 0, 1, 1, 1, 1, 1, 0, 0])) j (spec_PoolOk.S4 p) (kBlk 4 (kBlk 3 (kSeq (runK spec_PoolOk.x k 0 [2, 3] spec_PoolOk.h 2 (sub spec_PoolOk.c [1, 1, 1, 0, 1, 0, 0, 1, 1])) (kSeq (fun s' K => (norm [2, 3] (spec_PoolOk.h 2) s').bind fun s => loopK (norm [2, 3] (spec_PoolOk.h 2)) (runK spec_PoolOk.x k 0 [2, 3] spec_PoolOk.h 2 (sub spec_PoolOk.c [1, 1, 1, 0, 1, 0, 0])) j2 s K) (kBlk 2 (kSeq (runK spec_PoolOk.x k 0 [2, 3] spec_PoolOk.h 0 (sub spec_PoolOk.c [1, 1, 1, 1])) (fin tt spec_PoolOk.ps spec_PoolOk.rs spec_PoolOk.vs .bool)))))))
noncomputable def spec_PoolOk.D2 (k : Nat) (j : Nat) (p : (Int × (List (Int × Int × Int)) × (List (Int × Int)) × Int × Int)) : Option (Bool) := loopK (norm [2, 3] (spec_PoolOk.h 2)) (runK spec_PoolOk.x k 0 [2, 3] spec_PoolOk.h 2 (sub spec_PoolOk.c [1, 1, 1, 0, 1, 0, 0])) j (spec_PoolOk.S2 p) (kBlk 2 (kSeq (runK spec_PoolOk.x k 0 [2, 3] spec_PoolOk.h 0 (sub spec_PoolOk.c [1, 1, 1, 1])) (fin tt spec_PoolOk.ps spec_PoolOk.rs spec_PoolOk.vs .bool)))
noncomputable def spec_PoolOk.D0 (k : Nat) (j : Nat) (p : (Int × (List (Int × Int × Int)) × (List (Int × Int)) × Int × Int)) : Option (Bool) := loopK (norm [2, 3] (spec_PoolOk.h 0)) (runK spec_PoolOk.x k 0 [2, 3] spec_PoolOk.h 0 (sub spec_PoolOk.c [1, 1, 0, 1, 0, 0])) j (spec_PoolOk.S0 p) (kBlk 0 (kSeq (runK spec_PoolOk.x k 0 [2, 3] spec_PoolOk.h 0 (sub spec_PoolOk.c [1, 1, 1])) (fin tt spec_PoolOk.ps spec_PoolOk.rs spec_PoolOk.vs .bool)))
theorem spec_PoolOk.D4_eq (k : Nat) (j2 : Nat) : ∀ j, spec_PoolOk.D4 k j2 j = spec_PoolOk.l4 k (spec_PoolOk.D2 k j2) j := by
  intro j
  induction j with
  | zero => rfl
  | succ j ih =>
    show _ = spec_PoolOk.s4 k (spec_PoolOk.D2 k j2) (spec_PoolOk.l4 k (spec_PoolOk.D2 k j2) j)
    rw [← ih]
    funext p
    kernel_rfl
theorem spec_PoolOk.D2_eq (k : Nat) : ∀ j, spec_PoolOk.D2 k j = spec_PoolOk.l2 k j := by
  intro j
  induction j with
  | zero => rfl
  | succ j ih =>
    show _ = spec_PoolOk.s2 k (spec_PoolOk.l2 k j) (spec_PoolOk.l4 k (spec_PoolOk.l2 k j) k)
    rw [← ih, ← spec_PoolOk.D4_eq k j k]
    funext p
    kernel_rfl
theorem spec_PoolOk.D0_eq (k : Nat) : ∀ j, spec_PoolOk.D0 k j = spec_PoolOk.l0 k j := by
  intro j
  induction j with
  | zero => rfl
  | succ j ih =>
    show _ = spec_PoolOk.s0 k (spec_PoolOk.l0 k j) (spec_PoolOk.l2 k k)
    rw [← ih, ← spec_PoolOk.D2_eq k k]
    funext p
    kernel_rfl
def spec_PoolOk.f (k : Nat) (a0_0 : Int) (a0_1 : Int) (a0_2 : List (Int × Int × Int)) (a0_3 : List (Int × Int)) : Option (Bool) :=
  (spec_PrefixOk.f k a0_0 a0_1).bind fun r1 => (bif (!r1) then some false else (spec_l01In.f k a0_1 (24 : Int) (30 : Int)).bind fun r2 => (bif (!r2) then some false else (bif (decide ((a0_2.length : Int) > (6 : Int))) then some false else (bif (decide ((a0_3.length : Int) > (4 : Int))) then some false else spec_PoolOk.l0 k k ((0 : Int), a0_2, a0_3, a0_0, a0_1)))))
def spec_PoolOk.K : Ctr := ⟨spec_PoolOk.ps, spec_PoolOk.rs, false, (.two (.int .i64) (.two (.int .i64) (.two (.sl 63 (.two (.int .i64) (.two (.int .i64) (.int .i64)))) (.sl 150 (.two (.int .i64) (.int .i64)))))), .bool, fun k x => spec_PoolOk.f k x.1 x.2.1 x.2.2.1 x.2.2.2⟩
theorem spec_PoolOk.eq (k : Nat) (x : (spec_PoolOk.K.I).den) : func spec_PoolOk.x spec_PoolOk.h spec_PoolOk.ps spec_PoolOk.rs spec_PoolOk.vs spec_PoolOk.K.I spec_PoolOk.K.O spec_PoolOk.c k x = spec_PoolOk.K.run k x := by
  show _ = spec_PoolOk.f k x.1 x.2.1 x.2.2.1 x.2.2.2
  unfold spec_PoolOk.f
  rw [← spec_PoolOk.D0_eq k k]
  kernel_rfl
theorem spec_PoolOk.ok : CtrOk Try.prog 94 spec_PoolOk.K :=
  CtrOk.of (fn := Try.f94) (cd := spec_PoolOk.c) (cx := spec_PoolOk.x) (hs := spec_PoolOk.h) (by kernel_rfl) (by kernel_rfl) (by kernel_rfl) (by kernel_rfl) tt_ok (envOk_cons spec_PrefixOk.ok (envOk_cons spec_l01In.ok (envOk_cons spec_l11Inside.ok (envOk_cons spec_l11FixedFor.ok (envOk_nil))))) (by kernel_rfl) (by kernel_rfl) (by kernel_rfl) (by kernel_rfl) fun k x r h => (spec_PoolOk.eq k x).trans h
/-! spec.Release -/
noncomputable def spec_Release.c : Code := bodyOf Try.f38
def spec_Release.h : Nat → Hint := look ⟨[], [], []⟩ [(0, ⟨[1, 2, 4, 6, 7, 8], [32, 64, 96], [(.b 64 2, 800, 63, (.two (.int .i64) (.two (.int .i64) (.int .i64)))), (.b 64 3, 801, 150, (.two (.int .i64) (.int .i64))), (.b 96 2, 802, 63, (.two (.int .i64) (.two (.int .i64) (.int .i64)))), (.b 96 3, 803, 150, (.two (.int .i64) (.int .i64))), (.t 7, 804, 63, (.two (.int .i64) (.two (.int .i64) (.int .i64))))]⟩)]
def spec_Release.ps : List PK := [.agg 4, .one]
def spec_Release.rs : List RK := [.agg 4 true, .one true]
def spec_Release.vs : List ResultVar := [.cell 4 50, .tmp 5]
def spec_Release.x : Cx := ⟨tt, look none [(75, some spec_l11Copy.K), (94, some spec_PoolOk.K)]⟩
def spec_Release.s0 (k : Nat) (rec0 : (Int × Int × (List (Int × Int × Int)) × (List (Int × Int)) × Int × Int × Int × Int × Int × Int × (List (Int × Int × Int)) × (List (Int × Int)) × (List (Int × Int × Int)) × (List (Int × Int)) × (List (Int × Int × Int))) → Option (Int × Int × (List (Int × Int × Int)) × (List (Int × Int)) × Bool)) (p : (Int × Int × (List (Int × Int × Int)) × (List (Int × Int)) × Int × Int × Int × Int × Int × Int × (List (Int × Int × Int)) × (List (Int × Int)) × (List (Int × Int × Int)) × (List (Int × Int)) × (List (Int × Int × Int)))) : Option (Int × Int × (List (Int × Int × Int)) × (List (Int × Int)) × Bool) :=
  (bif (decide (p.2.1 < (p.2.2.1.length : Int))) then (bif ((decide ((0 : Int) ≤ p.2.1)) && (decide (p.2.1 < (p.2.2.1.length : Int)))) then (p.2.2.1[p.2.1.toNat]?).bind fun x2 => (bif (x2.2.1 != p.1) then (bif ((decide ((0 : Int) ≤ p.2.1)) && (decide (p.2.1 < (p.2.2.1.length : Int)))) then (p.2.2.1[p.2.1.toNat]?).bind fun x3 => (bif decide ((p.2.2.2.2.2.2.2.2.2.2.2.2.2.2.length + [(x3.1, x3.2.1, x3.2.2)].length) * 24 ≤ 140737488355328) then rec0 (p.1, (IntKind.i64.wrap (p.2.1 + (1 : Int))), p.2.2.1, p.2.2.2.1, p.2.2.2.2.1, p.2.2.2.2.2.1, p.2.2.2.2.2.2.1, p.2.2.2.2.2.2.2.1, p.2.2.2.2.2.2.2.2.1, p.2.2.2.2.2.2.2.2.2.1, p.2.2.2.2.2.2.2.2.2.2.1, p.2.2.2.2.2.2.2.2.2.2.2.1, p.2.2.2.2.2.2.2.2.2.2.2.2.1, p.2.2.2.2.2.2.2.2.2.2.2.2.2.1, (p.2.2.2.2.2.2.2.2.2.2.2.2.2.2 ++ [(x3.1, x3.2.1, x3.2.2)])) else none) else none) else rec0 (p.1, (IntKind.i64.wrap (p.2.1 + (1 : Int))), p.2.2.1, p.2.2.2.1, p.2.2.2.2.1, p.2.2.2.2.2.1, p.2.2.2.2.2.2.1, p.2.2.2.2.2.2.2.1, p.2.2.2.2.2.2.2.2.1, p.2.2.2.2.2.2.2.2.2.1, p.2.2.2.2.2.2.2.2.2.2.1, p.2.2.2.2.2.2.2.2.2.2.2.1, p.2.2.2.2.2.2.2.2.2.2.2.2.1, p.2.2.2.2.2.2.2.2.2.2.2.2.2.1, p.2.2.2.2.2.2.2.2.2.2.2.2.2.2)) else none) else (spec_PoolOk.f k p.2.2.2.2.1 p.2.2.2.2.2.1 p.2.2.1 p.2.2.2.1).bind fun r4 => (bif (!r4) then some (p.2.2.2.2.2.2.2.2.1, p.2.2.2.2.2.2.2.2.2.1, p.2.2.2.2.2.2.2.2.2.2.2.2.1, p.2.2.2.2.2.2.2.2.2.2.2.2.2.1, false) else (bif ((p.2.2.2.2.2.2.2.2.2.2.2.2.2.2.length : Int) == (p.2.2.1.length : Int)) then some (p.2.2.2.2.2.2.2.2.1, p.2.2.2.2.2.2.2.2.2.1, p.2.2.2.2.2.2.2.2.2.2.2.2.1, p.2.2.2.2.2.2.2.2.2.2.2.2.2.1, false) else some (p.2.2.2.2.2.2.2.2.1, p.2.2.2.2.2.2.2.2.2.1, p.2.2.2.2.2.2.2.2.2.2.2.2.2.2, p.2.2.2.2.2.2.2.2.2.2.2.2.2.1, true))))
def spec_Release.l0 (k : Nat) : Nat → (Int × Int × (List (Int × Int × Int)) × (List (Int × Int)) × Int × Int × Int × Int × Int × Int × (List (Int × Int × Int)) × (List (Int × Int)) × (List (Int × Int × Int)) × (List (Int × Int)) × (List (Int × Int × Int))) → Option (Int × Int × (List (Int × Int × Int)) × (List (Int × Int)) × Bool)
  | 0 => fun _ => none
  | j + 1 => spec_Release.s0 k (spec_Release.l0 k j)
def spec_Release.S0 (p : (Int × Int × (List (Int × Int × Int)) × (List (Int × Int)) × Int × Int × Int × Int × Int × Int × (List (Int × Int × Int)) × (List (Int × Int)) × (List (Int × Int × Int)) × (List (Int × Int)) × (List (Int × Int × Int)))) : DS := ⟨tl [(1, .at (.int .i64 p.1)), (2, .at (.bptr 32 0)), (4, .at (.bptr 64 0)), (6, .at (.bptr 96 0)), (7, .at (.whole 804)), (8, .at (.int .i64 p.2.1))], lookO [(2, .row 63 (.two (.int .i64) (.two (.int .i64) (.int .i64))) false p.2.2.1), (3, .row 150 (.two (.int .i64) (.int .i64)) false p.2.2.2.1), (32, .box 50 [.int .i64 p.2.2.2.2.1, .int .i64 p.2.2.2.2.2.1, .whole 2, .whole 3]), (64, .box 50 [.int .i64 p.2.2.2.2.2.2.1, .int .i64 p.2.2.2.2.2.2.2.1, .whole 800, .whole 801]), (96, .box 50 [.int .i64 p.2.2.2.2.2.2.2.2.1, .int .i64 p.2.2.2.2.2.2.2.2.2.1, .whole 802, .whole 803]), (800, .row 63 (.two (.int .i64) (.two (.int .i64) (.int .i64))) true p.2.2.2.2.2.2.2.2.2.2.1), (801, .row 150 (.two (.int .i64) (.int .i64)) true p.2.2.2.2.2.2.2.2.2.2.2.1), (802, .row 63 (.two (.int .i64) (.two (.int .i64) (.int .i64))) true p.2.2.2.2.2.2.2.2.2.2.2.2.1), (803, .row 150 (.two (.int .i64) (.int .i64)) true p.2.2.2.2.2.2.2.2.2.2.2.2.2.1), (804, .row 63 (.two (.int .i64) (.two (.int .i64) (.int .i64))) true p.2.2.2.2.2.2.2.2.2.2.2.2.2.2)]⟩
noncomputable def spec_Release.D0 (k : Nat) (j : Nat) (p : (Int × Int × (List (Int × Int × Int)) × (List (Int × Int)) × Int × Int × Int × Int × Int × Int × (List (Int × Int × Int)) × (List (Int × Int)) × (List (Int × Int × Int)) × (List (Int × Int)) × (List (Int × Int × Int)))) : Option (Int × Int × (List (Int × Int × Int)) × (List (Int × Int)) × Bool) := loopK (norm [2, 3] (spec_Release.h 0)) (runK spec_Release.x k 0 [2, 3] spec_Release.h 0 (sub spec_Release.c [1, 1, 1, 0, 1, 0, 0])) j (spec_Release.S0 p) (kBlk 0 (kSeq (runK spec_Release.x k 0 [2, 3] spec_Release.h 0 (sub spec_Release.c [1, 1, 1, 1])) (fin tt spec_Release.ps spec_Release.rs spec_Release.vs (.two (.int .i64) (.two (.int .i64) (.two (.sl 63 (.two (.int .i64) (.two (.int .i64) (.int .i64)))) (.two (.sl 150 (.two (.int .i64) (.int .i64))) .bool)))))))
theorem spec_Release.D0_eq (k : Nat) : ∀ j, spec_Release.D0 k j = spec_Release.l0 k j := by
  intro j
  induction j with
  | zero => rfl
  | succ j ih =>
    show _ = spec_Release.s0 k (spec_Release.l0 k j)
    rw [← ih]
    funext p
    kernel_rfl
def spec_Release.f (k : Nat) (a0_0 : Int) (a0_1 : Int) (a0_2 : List (Int × Int × Int)) (a0_3 : List (Int × Int)) (a1 : Int) : Option (Int × Int × (List (Int × Int × Int)) × (List (Int × Int)) × Bool) :=
  (spec_l11Copy.f k a0_0 a0_1 a0_2 a0_3).bind fun r1 => spec_Release.l0 k k (a1, (0 : Int), a0_2, a0_3, a0_0, a0_1, (0 : Int), (0 : Int), r1.1, r1.2.1, ([] : List (Int × Int × Int)), ([] : List (Int × Int)), r1.2.2.1, r1.2.2.2, ([] : List (Int × Int × Int)))
def spec_Release.K : Ctr := ⟨spec_Release.ps, spec_Release.rs, false, (.two (.int .i64) (.two (.int .i64) (.two (.sl 63 (.two (.int .i64) (.two (.int .i64) (.int .i64)))) (.two (.sl 150 (.two (.int .i64) (.int .i64))) (.int .i64))))), (.two (.int .i64) (.two (.int .i64) (.two (.sl 63 (.two (.int .i64) (.two (.int .i64) (.int .i64)))) (.two (.sl 150 (.two (.int .i64) (.int .i64))) .bool)))), fun k x => spec_Release.f k x.1 x.2.1 x.2.2.1 x.2.2.2.1 x.2.2.2.2⟩
theorem spec_Release.eq (k : Nat) (x : (spec_Release.K.I).den) : func spec_Release.x spec_Release.h spec_Release.ps spec_Release.rs spec_Release.vs spec_Release.K.I spec_Release.K.O spec_Release.c k x = spec_Release.K.run k x := by
  show _ = spec_Release.f k x.1 x.2.1 x.2.2.1 x.2.2.2.1 x.2.2.2.2
  unfold spec_Release.f
  rw [← spec_Release.D0_eq k k]
  kernel_rfl
theorem spec_Release.ok : CtrOk Try.prog 38 spec_Release.K :=
  CtrOk.of (fn := Try.f38) (cd := spec_Release.c) (cx := spec_Release.x) (hs := spec_Release.h) (by kernel_rfl) (by kernel_rfl) (by kernel_rfl) (by kernel_rfl) tt_ok (envOk_cons spec_l11Copy.ok (envOk_cons spec_PoolOk.ok (envOk_nil))) (by kernel_rfl) (by kernel_rfl) (by kernel_rfl) (by kernel_rfl) fun k x r h => (spec_Release.eq k x).trans h
/-! spec.HolderOf -/
noncomputable def spec_HolderOf.c : Code := bodyOf Try.f144
def spec_HolderOf.h : Nat → Hint := look ⟨[], [], []⟩ [(0, ⟨[1, 2, 5], [32], []⟩)]
def spec_HolderOf.ps : List PK := [.agg 4, .one]
def spec_HolderOf.rs : List RK := [.one true]
def spec_HolderOf.vs : List ResultVar := [.tmp 4]
def spec_HolderOf.x : Cx := ⟨tt, look none []⟩
def spec_HolderOf.s0 (_k : Nat) (rec0 : (Int × Int × (List (Int × Int × Int)) × (List (Int × Int)) × Int × Int) → Option (Int)) (p : (Int × Int × (List (Int × Int × Int)) × (List (Int × Int)) × Int × Int)) : Option (Int) :=
  (bif (decide (p.2.1 < (p.2.2.1.length : Int))) then (bif ((decide ((0 : Int) ≤ p.2.1)) && (decide (p.2.1 < (p.2.2.1.length : Int)))) then (p.2.2.1[p.2.1.toNat]?).bind fun x1 => (bif (x1.1 == p.1) then (bif ((decide ((0 : Int) ≤ p.2.1)) && (decide (p.2.1 < (p.2.2.1.length : Int)))) then (p.2.2.1[p.2.1.toNat]?).bind fun x2 => some x2.2.1 else none) else rec0 (p.1, (IntKind.i64.wrap (p.2.1 + (1 : Int))), p.2.2.1, p.2.2.2.1, p.2.2.2.2.1, p.2.2.2.2.2)) else none) else some (0 : Int))
def spec_HolderOf.l0 (k : Nat) : Nat → (Int × Int × (List (Int × Int × Int)) × (List (Int × Int)) × Int × Int) → Option (Int)
  | 0 => fun _ => none
  | j + 1 => spec_HolderOf.s0 k (spec_HolderOf.l0 k j)
def spec_HolderOf.S0 (p : (Int × Int × (List (Int × Int × Int)) × (List (Int × Int)) × Int × Int)) : DS := ⟨tl [(1, .at (.int .i64 p.1)), (2, .at (.bptr 32 0)), (5, .at (.int .i64 p.2.1))], lookO [(2, .row 63 (.two (.int .i64) (.two (.int .i64) (.int .i64))) false p.2.2.1), (3, .row 150 (.two (.int .i64) (.int .i64)) false p.2.2.2.1), (32, .box 50 [.int .i64 p.2.2.2.2.1, .int .i64 p.2.2.2.2.2, .whole 2, .whole 3])]⟩
noncomputable def spec_HolderOf.D0 (k : Nat) (j : Nat) (p : (Int × Int × (List (Int × Int × Int)) × (List (Int × Int)) × Int × Int)) : Option (Int) := loopK (norm [2, 3] (spec_HolderOf.h 0)) (runK spec_HolderOf.x k 0 [2, 3] spec_HolderOf.h 0 (sub spec_HolderOf.c [1, 0, 1, 0, 0])) j (spec_HolderOf.S0 p) (kBlk 0 (kSeq (runK spec_HolderOf.x k 0 [2, 3] spec_HolderOf.h 0 (sub spec_HolderOf.c [1, 1])) (fin tt spec_HolderOf.ps spec_HolderOf.rs spec_HolderOf.vs (.int .i64))))
theorem spec_HolderOf.D0_eq (k : Nat) : ∀ j, spec_HolderOf.D0 k j = spec_HolderOf.l0 k j := by
  intro j
  induction j with
  | zero => rfl
  | succ j ih =>
    show _ = spec_HolderOf.s0 k (spec_HolderOf.l0 k j)
    rw [← ih]
    funext p
    kernel_rfl
def spec_HolderOf.f (k : Nat) (a0_0 : Int) (a0_1 : Int) (a0_2 : List (Int × Int × Int)) (a0_3 : List (Int × Int)) (a1 : Int) : Option (Int) :=
  spec_HolderOf.l0 k k (a1, (0 : Int), a0_2, a0_3, a0_0, a0_1)
def spec_HolderOf.K : Ctr := ⟨spec_HolderOf.ps, spec_HolderOf.rs, false, (.two (.int .i64) (.two (.int .i64) (.two (.sl 63 (.two (.int .i64) (.two (.int .i64) (.int .i64)))) (.two (.sl 150 (.two (.int .i64) (.int .i64))) (.int .i64))))), (.int .i64), fun k x => spec_HolderOf.f k x.1 x.2.1 x.2.2.1 x.2.2.2.1 x.2.2.2.2⟩
theorem spec_HolderOf.eq (k : Nat) (x : (spec_HolderOf.K.I).den) : func spec_HolderOf.x spec_HolderOf.h spec_HolderOf.ps spec_HolderOf.rs spec_HolderOf.vs spec_HolderOf.K.I spec_HolderOf.K.O spec_HolderOf.c k x = spec_HolderOf.K.run k x := by
  show _ = spec_HolderOf.f k x.1 x.2.1 x.2.2.1 x.2.2.2.1 x.2.2.2.2
  unfold spec_HolderOf.f
  rw [← spec_HolderOf.D0_eq k k]
  kernel_rfl
theorem spec_HolderOf.ok : CtrOk Try.prog 144 spec_HolderOf.K :=
  CtrOk.of (fn := Try.f144) (cd := spec_HolderOf.c) (cx := spec_HolderOf.x) (hs := spec_HolderOf.h) (by kernel_rfl) (by kernel_rfl) (by kernel_rfl) (by kernel_rfl) tt_ok (envOk_nil) (by kernel_rfl) (by kernel_rfl) (by kernel_rfl) (by kernel_rfl) fun k x r h => (spec_HolderOf.eq k x).trans h
/-! spec.l11Free -/
noncomputable def spec_l11Free.c : Code := bodyOf Try.f99
def spec_l11Free.h : Nat → Hint := look ⟨[], [], []⟩ [(0, ⟨[1, 2, 5], [32], []⟩), (2, ⟨[2, 6], [32], []⟩)]
def spec_l11Free.ps : List PK := [.agg 4, .one]
def spec_l11Free.rs : List RK := [.one true]
def spec_l11Free.vs : List ResultVar := [.tmp 4]
def spec_l11Free.x : Cx := ⟨tt, look none [(102, some spec_l08Size.K), (144, some spec_HolderOf.K), (137, some spec_l11FixedFor.K)]⟩
def spec_l11Free.s2 (k : Nat) (rec2 : (Int × (List (Int × Int × Int)) × (List (Int × Int)) × Int × Int) → Option (Int)) (p : (Int × (List (Int × Int × Int)) × (List (Int × Int)) × Int × Int)) : Option (Int) :=
  (spec_l08Size.f k p.2.2.2.2).bind fun r3 => (bif (decide (p.1 < (IntKind.i64.wrap ((IntKind.i64.wrap (p.2.2.2.1 + r3)) - (1 : Int))))) then (spec_HolderOf.f k p.2.2.2.1 p.2.2.2.2 p.2.1 p.2.2.1 p.1).bind fun r4 => (bif (r4 == (0 : Int)) then (spec_l11FixedFor.f k p.2.2.2.1 p.2.2.2.2 p.2.1 p.2.2.1 p.1).bind fun r5 => (bif (r5 == (0 : Int)) then some p.1 else rec2 ((IntKind.i64.wrap (p.1 + (1 : Int))), p.2.1, p.2.2.1, p.2.2.2.1, p.2.2.2.2)) else rec2 ((IntKind.i64.wrap (p.1 + (1 : Int))), p.2.1, p.2.2.1, p.2.2.2.1, p.2.2.2.2)) else some (0 : Int))
def spec_l11Free.l2 (k : Nat) : Nat → (Int × (List (Int × Int × Int)) × (List (Int × Int)) × Int × Int) → Option (Int)
  | 0 => fun _ => none
  | j + 1 => spec_l11Free.s2 k (spec_l11Free.l2 k j)
def spec_l11Free.s0 (_k : Nat) (rec0 : (Int × Int × (List (Int × Int × Int)) × (List (Int × Int)) × Int × Int) → Option (Int)) (i2 : (Int × (List (Int × Int × Int)) × (List (Int × Int)) × Int × Int) → Option (Int)) (p : (Int × Int × (List (Int × Int × Int)) × (List (Int × Int)) × Int × Int)) : Option (Int) :=
  (bif (decide (p.2.1 < (p.2.2.2.1.length : Int))) then (bif ((decide ((0 : Int) ≤ p.2.1)) && (decide (p.2.1 < (p.2.2.2.1.length : Int)))) then (p.2.2.2.1[p.2.1.toNat]?).bind fun x1 => (bif (x1.1 == p.1) then (bif ((decide ((0 : Int) ≤ p.2.1)) && (decide (p.2.1 < (p.2.2.2.1.length : Int)))) then (p.2.2.2.1[p.2.1.toNat]?).bind fun x2 => some x2.2 else none) else rec0 (p.1, (IntKind.i64.wrap (p.2.1 + (1 : Int))), p.2.2.1, p.2.2.2.1, p.2.2.2.2.1, p.2.2.2.2.2)) else none) else i2 ((IntKind.i64.wrap (p.2.2.2.2.1 + (1 : Int))), p.2.2.1, p.2.2.2.1, p.2.2.2.2.1, p.2.2.2.2.2))
def spec_l11Free.l0 (k : Nat) : Nat → (Int × Int × (List (Int × Int × Int)) × (List (Int × Int)) × Int × Int) → Option (Int)
  | 0 => fun _ => none
  | j + 1 => spec_l11Free.s0 k (spec_l11Free.l0 k j) (spec_l11Free.l2 k k)
def spec_l11Free.S2 (p : (Int × (List (Int × Int × Int)) × (List (Int × Int)) × Int × Int)) : DS := ⟨tl [(2, .at (.bptr 32 0)), (6, .at (.int .i64 p.1))], lookO [(2, .row 63 (.two (.int .i64) (.two (.int .i64) (.int .i64))) false p.2.1), (3, .row 150 (.two (.int .i64) (.int .i64)) false p.2.2.1), (32, .box 50 [.int .i64 p.2.2.2.1, .int .i64 p.2.2.2.2, .whole 2, .whole 3])]⟩
def spec_l11Free.S0 (p : (Int × Int × (List (Int × Int × Int)) × (List (Int × Int)) × Int × Int)) : DS := ⟨tl [(1, .at (.int .i64 p.1)), (2, .at (.bptr 32 0)), (5, .at (.int .i64 p.2.1))], lookO [(2, .row 63 (.two (.int .i64) (.two (.int .i64) (.int .i64))) false p.2.2.1), (3, .row 150 (.two (.int .i64) (.int .i64)) false p.2.2.2.1), (32, .box 50 [.int .i64 p.2.2.2.2.1, .int .i64 p.2.2.2.2.2, .whole 2, .whole 3])]⟩
noncomputable def spec_l11Free.D2 (k : Nat) (j : Nat) (p : (Int × (List (Int × Int × Int)) × (List (Int × Int)) × Int × Int)) : Option (Int) := loopK (norm [2, 3] (spec_l11Free.h 2)) (runK spec_l11Free.x k 0 [2, 3] spec_l11Free.h 2 (sub spec_l11Free.c [1, 1, 0, 1, 0, 0])) j (spec_l11Free.S2 p) (kBlk 2 (kSeq (runK spec_l11Free.x k 0 [2, 3] spec_l11Free.h 0 (sub spec_l11Free.c [1, 1, 1])) (fin tt spec_l11Free.ps spec_l11Free.rs spec_l11Free.vs (.int .i64))))
noncomputable def spec_l11Free.D0 (k : Nat) (j : Nat) (p : (Int × Int × (List (Int × Int × Int)) × (List (Int × Int)) × Int × Int)) : Option (Int) := loopK (norm [2, 3] (spec_l11Free.h 0)) (runK spec_l11Free.x k 0 [2, 3] spec_l11Free.h 0 (sub spec_l11Free.c [1, 0, 1, 0, 0])) j (spec_l11Free.S0 p) (kBlk 0 (kSeq (runK spec_l11Free.x k 0 [2, 3] spec_l11Free.h 0 (sub spec_l11Free.c [1, 1])) (fin tt spec_l11Free.ps spec_l11Free.rs spec_l11Free.vs (.int .i64))))
theorem spec_l11Free.D2_eq (k : Nat) : ∀ j, spec_l11Free.D2 k j = spec_l11Free.l2 k j := by
  intro j
  induction j with
  | zero => rfl
  | succ j ih =>
    show _ = spec_l11Free.s2 k (spec_l11Free.l2 k j)
    rw [← ih]
    funext p
    kernel_rfl
theorem spec_l11Free.D0_eq (k : Nat) : ∀ j, spec_l11Free.D0 k j = spec_l11Free.l0 k j := by
  intro j
  induction j with
  | zero => rfl
  | succ j ih =>
    show _ = spec_l11Free.s0 k (spec_l11Free.l0 k j) (spec_l11Free.l2 k k)
    rw [← ih, ← spec_l11Free.D2_eq k k]
    funext p
    kernel_rfl
def spec_l11Free.f (k : Nat) (a0_0 : Int) (a0_1 : Int) (a0_2 : List (Int × Int × Int)) (a0_3 : List (Int × Int)) (a1 : Int) : Option (Int) :=
  spec_l11Free.l0 k k (a1, (0 : Int), a0_2, a0_3, a0_0, a0_1)
def spec_l11Free.K : Ctr := ⟨spec_l11Free.ps, spec_l11Free.rs, false, (.two (.int .i64) (.two (.int .i64) (.two (.sl 63 (.two (.int .i64) (.two (.int .i64) (.int .i64)))) (.two (.sl 150 (.two (.int .i64) (.int .i64))) (.int .i64))))), (.int .i64), fun k x => spec_l11Free.f k x.1 x.2.1 x.2.2.1 x.2.2.2.1 x.2.2.2.2⟩
theorem spec_l11Free.eq (k : Nat) (x : (spec_l11Free.K.I).den) : func spec_l11Free.x spec_l11Free.h spec_l11Free.ps spec_l11Free.rs spec_l11Free.vs spec_l11Free.K.I spec_l11Free.K.O spec_l11Free.c k x = spec_l11Free.K.run k x := by
  show _ = spec_l11Free.f k x.1 x.2.1 x.2.2.1 x.2.2.2.1 x.2.2.2.2
  unfold spec_l11Free.f
  rw [← spec_l11Free.D0_eq k k]
  kernel_rfl
theorem spec_l11Free.ok : CtrOk Try.prog 99 spec_l11Free.K :=
  CtrOk.of (fn := Try.f99) (cd := spec_l11Free.c) (cx := spec_l11Free.x) (hs := spec_l11Free.h) (by kernel_rfl) (by kernel_rfl) (by kernel_rfl) (by kernel_rfl) tt_ok (envOk_cons spec_l08Size.ok (envOk_cons spec_HolderOf.ok (envOk_cons spec_l11FixedFor.ok (envOk_nil)))) (by kernel_rfl) (by kernel_rfl) (by kernel_rfl) (by kernel_rfl) fun k x r h => (spec_l11Free.eq k x).trans h
end Go.Proofs.Ytfaeklomiofpdaa.DI
